import PyProof.Rows.All
import Wide.All
import OpenK.AllK
import Wide.FinOn
import KE.KeyNested
import HandS.ForMost
import HandS.HeadHook2
import HandS.HeadHook1
import HandS.Head0
import HandS.Head1
import HandS.Head2
import HandS.HeadEnd
import HandS.Head3
import HandS.Deep
import HandS.TupAny
import HandS.IsInst
import HandS.Gcd
import HandS.Style
import HandS.Defaults
import HandS.Property
import HandS.MakeKwOnly
import KE.GoesEnum
import KE.GoesZip
import KE.GoesMore
import KE.KDictKeyed
import KE.KEqDict
import HandS.Conv
import HandS.Zip
import KE.SortData
import KE.KDictSum
import KE.KOpsOwn
import KE.KFmtOwn
import HandS.Evl
import PySem.Challenge.RW_aheadsums_k62_whole_forms_free_at_their
set_option Elab.async false
section
set_option linter.all false
/-! Pd0: the pure side: data, environments, combinators. No program in sight. -/
namespace Pd
/-- the three classes -/
inductive Cl | rat | tab | frm
  deriving DecidableEq, Repr
/-- data trees -/
inductive D where
  | non | bl (b : Bool) | int (i : Int) | rb (b : Bool)
  | tup (ds : List D) | lst (ds : List D) | dic (kvs : List (D × D)) | ins (c : Cl) (fs : List D)
  deriving Inhabited

/-- a slot: nothing known, shared data, an owned list, dict or instance -/
inductive Sl where
  | u | i (d : D) | o (d : D)
  deriving Inhabited
abbrev Env := List Sl
abbrev M (α : Type) := Env → Option (α × Env)
def ret {α : Type} (a : α) : M α := fun ρ => some (a, ρ)
def fail {α : Type} : M α := fun _ => none
def bnd {α β : Type} (m : M α) (f : α → M β) : M β := fun ρ => match m ρ with
  | some (a, ρ') => f a ρ'
  | none => none
def lift {α : Type} (o : Option α) : M α := fun ρ => match o with
  | some a => some (a, ρ)
  | none => none
theorem bnd_some {α β : Type} {m : M α} {f : α → M β} {ρ ρ' : Env} {a : α} (h : m ρ = some (a, ρ')) : bnd m f ρ = f a ρ' := by
  unfold bnd; rw [h]
theorem bnd_inv {α β : Type} {m : M α} {f : α → M β} {ρ : Env} {r : β × Env} (h : bnd m f ρ = some r) : ∃ a ρ', m ρ = some (a, ρ') ∧ f a ρ' = some r := by
  unfold bnd at h
  cases e : m ρ with
  | none => rw [e] at h; cases h
  | some p => obtain ⟨a, ρ'⟩ := p; rw [e] at h; exact ⟨a, ρ', rfl, h⟩
theorem lift_inv {α : Type} {o : Option α} {ρ : Env} {r : α × Env} (h : lift o ρ = some r) : ∃ a, o = some a ∧ r = (a, ρ) := by
  unfold lift at h
  cases o with
  | none => cases h
  | some a => exact ⟨a, rfl, (Option.some.inj h).symm⟩

/-! ### equality, order, keys -/
mutual
/-- only None, numbers, tuples, lists within -/
def flat : D → Bool
  | .non => true
  | .int _ => true
  | .tup ds => flats ds
  | .lst ds => flats ds
  | .bl _ => false
  | .rb _ => false
  | .dic _ => false
  | .ins _ _ => false
def flats : List D → Bool
  | [] => true
  | d :: ds => flat d && flats ds
end
mutual
def eqv : D → D → Bool
  | .non, .non => true
  | .int i, .int j => decide (i = j)
  | .tup a, .tup b => eqvs a b
  | .lst a, .lst b => eqvs a b
  | .bl a, .bl b => decide (a = b)
  | .rb a, .rb b => decide (a = b)
  | _, _ => false
def eqvs : List D → List D → Bool
  | [], [] => true
  | a :: as, b :: bs => eqv a b && eqvs as bs
  | _, _ => false
end
mutual
/-- tuples of numbers, nested -/
def isKey : D → Bool
  | .int _ => true
  | .tup ds => isKeys ds
  | _ => false
def isKeys : List D → Bool
  | [] => true
  | d :: ds => isKey d && isKeys ds
end
/-- a tuple that may stand as a key -/
def kOk : D → Bool
  | .tup ds => isKeys ds
  | _ => false
mutual
/-- comparable, place by place -/
def alk : D → D → Bool
  | .int _, .int _ => true
  | .tup a, .tup b => alks a b
  | _, _ => false
def alks : List D → List D → Bool
  | a :: as, b :: bs => alk a b && alks as bs
  | [], _ => true
  | _ :: _, [] => true
end
mutual
/-- Python's < of comparable data -/
def lt : D → D → Bool
  | .int i, .int j => decide (i < j)
  | .tup a, .tup b => lts a b
  | _, _ => false
def lts : List D → List D → Bool
  | a :: as, b :: bs => if eqv a b then lts as bs else lt a b
  | [], _ :: _ => true
  | _, [] => false
end
mutual
def depth : D → Nat
  | .tup ds => depths ds + 1
  | .lst ds => depths ds + 1
  | _ => 0
def depths : List D → Nat
  | [] => 0
  | d :: ds => max (depth d) (depths ds)
end

/-! ### lists -/
/-- what stands at a place, from behind where it is below 0 -/
def atD (ds : List D) (i : Int) : Option D :=
  if 0 ≤ i then ds[i.toNat]? else if 0 ≤ i + ds.length then ds[(i + ds.length).toNat]? else none
/-- a cut's bound -/
def cutIx (n : Nat) (dflt : Nat) : Option Int → Nat
  | none => dflt
  | some i => if 0 ≤ i then min i.toNat n else (i + n).toNat
def cutD (ds : List D) (lo hi : Option Int) : List D :=
  (ds.drop (cutIx ds.length 0 lo)).take (cutIx ds.length ds.length hi - cutIx ds.length 0 lo)

/-! ### dicts: pairs in their sequence -/
def dget (kvs : List (D × D)) (k : D) : Option D := (kvs.find? fun p => eqv p.1 k).map (·.2)
def dhas (kvs : List (D × D)) (k : D) : Bool := kvs.any fun p => eqv p.1 k
def dput (kvs : List (D × D)) (k v : D) : List (D × D) :=
  if dhas kvs k then kvs.map fun p => if eqv p.1 k then (p.1, v) else p else kvs ++ [(k, v)]
def ddrop (kvs : List (D × D)) (k : D) : List (D × D) := kvs.filter fun p => !eqv p.1 k

/-! ### operators -/
def optOr {α : Type} (a b : Option α) : Option α := match a with
  | some x => some x
  | none => b
def rat (n : Int) : D := .ins .rat [.int n, .int 1]
def small (i : Int) : Bool := decide (-(2 ^ 64) < i) && decide (i < 2 ^ 64)
def opAdd : D → D → Option D
  | .int i, .int j => some (.int (i + j))
  | .tup a, .tup b => if a.length + b.length ≤ 1000 then some (.tup (a ++ b)) else none
  | _, _ => none
def opSub : D → D → Option D
  | .int i, .int j => some (.int (i - j))
  | _, _ => none
def opMul : D → D → Option D
  | .int i, .int j => if small i || small j then some (.int (i * j)) else none
  | _, _ => none
def opMod : D → D → Option D
  | .int i, .int j => if 0 < j then some (.int (i % j)) else none
  | _, _ => none
def opDiv : D → D → Option D
  | .int i, .int j => if 0 < j ∧ j < 1073741824 then some (.int (i / j)) else none
  | _, _ => none
def opPow : D → D → Option D
  | .int i, .int j => if 0 ≤ j ∧ j ≤ 1000 ∧ i.natAbs < 2 ^ 64 then some (.int (i ^ j.toNat)) else none
  | _, _ => none
/-- [..] + [..], [..] * n: new lists -/
def opCat : D → D → Option D
  | .lst a, .lst b => if a.length + b.length ≤ 2000000 then some (.lst (a ++ b)) else none
  | _, _ => none
def opRep : D → D → Option D
  | .lst a, .int k => if k < 1000 ∧ 0 ≤ k ∧ a.length ≤ 1000 then some (.lst (List.replicate k.toNat a).flatten) else none
  | _, _ => none
def opNeg : D → Option D
  | .int i => some (.int (-i))
  | _ => none
def opLt : D → D → Option D
  | .int i, .int j => some (.bl (decide (i < j)))
  | _, _ => none
def opLe : D → D → Option D
  | .int i, .int j => some (.bl (decide (i ≤ j)))
  | _, _ => none
def opGt : D → D → Option D
  | .int i, .int j => some (.bl (decide (j < i)))
  | _, _ => none
def opGe : D → D → Option D
  | .int i, .int j => some (.bl (decide (j ≤ i)))
  | _, _ => none
def opEq : D → D → Option D
  | .bl a, .bl b => some (.bl (decide (a = b)))
  | .rb a, .rb b => some (.bl (decide (a = b)))
  | a, b => if flat a ∧ flat b ∧ depth a ≤ 8 ∧ depth b ≤ 8 then some (.bl (eqv a b)) else none
def opNe (a b : D) : Option D := match opEq a b with
  | some (.bl c) => some (.bl (!c))
  | _ => none
/-- == {}, != {} -/
def opEqE : D → D → Option D
  | .dic a, .dic [] => some (.bl a.isEmpty)
  | _, _ => none
def opNeE : D → D → Option D
  | .dic a, .dic [] => some (.bl (!a.isEmpty))
  | _, _ => none
def opNotIn : D → D → Option D
  | a, .lst bs => if flat a ∧ flats bs ∧ depth a ≤ 8 ∧ depths bs ≤ 8 then some (.bl (!bs.any fun b => eqv b a)) else none
  | _, _ => none
def opIsN : D → Option D := fun a => match a with
  | .non => some (.bl true)
  | _ => some (.bl false)
def opNotN : D → Option D := fun a => match a with
  | .non => some (.bl false)
  | _ => some (.bl true)
def opIsB : D → D → Option D
  | .bl a, .bl b => some (.bl (decide (a = b)))
  | _, _ => none
def opNotB : D → D → Option D
  | .bl a, .bl b => some (.bl (!decide (a = b)))
  | _, _ => none
def opIx : D → D → Option D
  | .tup ds, .int i => atD ds i
  | .lst ds, .int i => atD ds i
  | .dic kvs, k => if kOk k ∧ depth k ≤ 8 then dget kvs k else none
  | _, _ => none
def opLen : D → Option D
  | .tup ds => some (.int ds.length)
  | .lst ds => some (.int ds.length)
  | _ => none
def bool? : D → Option Bool
  | .bl b => some b
  | _ => none
def int? : D → Option Int
  | .int i => some i
  | _ => none
def opAll : D → Option D
  | .lst ds => (ds.mapM bool?).map fun bs => .bl (bs.all id)
  | _ => none
def opSum : D → Option D
  | .lst ds => (ds.mapM int?).map fun is => .int is.sum
  | _ => none
def minI (i : Int) (is : List Int) : Int := is.foldl (fun m j => if j < m then j else m) i
def opMin : D → Option D
  | .lst ds => match ds.mapM int? with
    | some (i :: is) => some (.int (minI i is))
    | _ => none
  | _ => none
def opAbs : D → Option D
  | .int i => some (.int (if i < 0 then -i else i))
  | _ => none
def opMax2 : D → D → Option D
  | .int i, .int j => some (.int (if j > i then j else i))
  | _, _ => none
def opInt : D → Option D
  | .int i => some (.int i)
  | .bl b => some (.int (if b then 1 else 0))
  | _ => none
def opRepr : D → Option D
  | .bl b => some (.rb b)
  | _ => none
def opTuple : D → Option D
  | .lst ds => some (.tup ds)
  | _ => none
def opList : D → Option D
  | .lst ds => some (.lst ds)
  | .tup ds => some (.lst ds)
  | .dic kvs => some (.lst (kvs.map (·.1)))
  | _ => none
def opRev : D → Option D
  | .tup ds => some (.tup ds.reverse)
  | .lst ds => some (.lst ds.reverse)
  | _ => none
def allAlk (ds : List D) : Bool := ds.all fun a => ds.all fun b => alk a b
def sortD (ds : List D) : List D := ds.mergeSort fun a b => !lt b a
def seq? : D → Option (List D)
  | .tup ds => some ds
  | .lst ds => some ds
  | .dic kvs => some (kvs.map (·.1))
  | _ => none
def isInt : D → Bool
  | .int _ => true
  | _ => false
def fullT : D → Bool
  | .tup (_ :: _) => true
  | _ => false
def emptyT : D → Bool
  | .tup [] => true
  | _ => false
/-- what is sorted: numbers, or tuples none of which is empty, or empty tuples -/
def srtOk (ds : List D) : Bool := ds.all isInt || ds.all fullT || ds.all emptyT
def opSorted (d : D) : Option D := match seq? d with
  | some ds => if allAlk ds ∧ srtOk ds ∧ ds.length ≤ 1000 ∧ depths ds ≤ 8 then some (.lst (sortD ds)) else none
  | none => none
def opGcd : D → D → Option D
  | .int i, .int j => some (.int ((Nat.gcd i.natAbs j.natAbs : Nat) : Int))
  | _, _ => none
def opLcm : D → D → Option D
  | .int i, .int j => if i.natAbs < 2 ^ 64 ∧ j.natAbs < 2 ^ 64 then some (.int ((Nat.lcm i.natAbs j.natAbs : Nat) : Int)) else none
  | _, _ => none
/-- how many unlike numbers -/
def firsts (acc : List Int) : List Int → List Int
  | [] => acc
  | k :: ks => firsts (if acc.any (· == k) then acc else acc ++ [k]) ks
def opSetLen : D → Option D
  | .lst ds => if ds.length ≤ 1000 then (ds.mapM int?).map fun is => .int (firsts [] is).length else none
  | _ => none
/-- dict(pairs) -/
def pair? : D → Option (D × D)
  | .tup [k, v] => if kOk k ∧ depth k ≤ 8 then some (k, v) else none
  | _ => none
def opDict : D → Option D
  | .lst ds => if ds.length < 1000000 then (ds.mapM pair?).map fun ps => .dic (ps.foldl (fun m p => dput m p.1 p.2) []) else none
  | _ => none
def opDivmod : D → D → Option D
  | .int i, .int j => if 0 < j ∧ j < 1073741824 then some (.tup [.int (i / j), .int (i % j)]) else none
  | _, _ => none
/-- isinstance -/
inductive Ty | int | bool | tuple | listTuple | cls (c : Cl)
  deriving DecidableEq
def opIsi : Ty → D → Option D
  | .int, .int _ => some (.bl true)
  | .int, .bl _ => some (.bl true)
  | .int, .non => some (.bl false)
  | .int, .tup _ => some (.bl false)
  | .int, .lst _ => some (.bl false)
  | .int, .ins _ _ => some (.bl false)
  | .bool, .int _ => some (.bl false)
  | .bool, .bl _ => some (.bl true)
  | .tuple, .tup _ => some (.bl true)
  | .listTuple, .tup _ => some (.bl true)
  | .listTuple, .lst _ => some (.bl true)
  | .cls c, .ins c' _ => some (.bl (decide (c = c')))
  | .cls _, .int _ => some (.bl false)
  | _, _ => none
/-- fields, in the sequence in which they are stored -/
inductive Fd | top | bottom | columns | rows | parts
  deriving DecidableEq
def fdCl : Fd → Cl × Nat → Bool
  | .top, (.rat, 0) => true
  | .bottom, (.rat, 1) => true
  | .columns, (.tab, 0) => true
  | .rows, (.tab, 1) => true
  | .columns, (.frm, 0) => true
  | .parts, (.frm, 1) => true
  | _, _ => false
def fdIx : Fd → Cl → Option Nat
  | .top, .rat => some 0
  | .bottom, .rat => some 1
  | .columns, .tab => some 0
  | .rows, .tab => some 1
  | .columns, .frm => some 0
  | .parts, .frm => some 1
  | _, _ => none
def opFld (f : Fd) : D → Option D
  | .ins c fs => (fdIx f c).bind fun k => fs[k]?
  | _ => none

/-- a property, a method without arguments -/
def opPrp (c : Cl) (g : List D → Option D) : D → Option D
  | .ins c' fs => if c' = c then g [.ins c' fs] else none
  | _ => none
/-- keywords in the other sequence -/
def swp (g : List D → Option D) (ds : List D) : Option D := g ds.reverse
def a1 (f : D → Option D) : List D → Option D
  | [x] => f x
  | _ => none
def a2 (f : D → D → Option D) : List D → Option D
  | [x, y] => f x y
  | _ => none

/-! ### expressions -/
abbrev E := M D
def eC (d : D) : E := ret d
def eV (k : Nat) : E := fun ρ => match ρ[k]? with
  | some (.i d) => some (d, ρ)
  | some (.o d) => some (d, ρ.set k (.i d))
  | _ => none
def e1 (f : D → Option D) (a : E) : E := bnd a fun x => lift (f x)
def e2 (f : D → D → Option D) (a b : E) : E := bnd a fun x => bnd b fun y => lift (f x y)
def args : List E → M (List D)
  | [] => ret []
  | a :: as => bnd a fun x => bnd (args as) fun xs => ret (x :: xs)
def eTup (as : List E) : E := bnd (args as) fun xs => ret (.tup xs)
def eLst (as : List E) : E := bnd (args as) fun xs => ret (.lst xs)
def eDic : E := ret (.dic [])
def eCall (g : List D → Option D) (as : List E) : E := bnd (args as) fun xs => lift (g xs)
/-- what an owned slot holds -/
def own? (k : Nat) : M D := fun ρ => match ρ[k]? with
  | some (.o d) => some (d, ρ)
  | _ => none
/-- .. a list, a dict -/
def ownL? (k : Nat) : M Unit := fun ρ => match ρ[k]? with
  | some (.o (.lst _)) => some ((), ρ)
  | _ => none
def ownD? (k : Nat) : M Unit := fun ρ => match ρ[k]? with
  | some (.o (.dic _)) => some ((), ρ)
  | _ => none
def putO (k : Nat) (d : D) : M Unit := fun ρ => match ρ[k]? with
  | some (.o _) => some ((), ρ.set k (.o d))
  | _ => none
/-- a call that turns the owned thing in slot k -/
def eCallO (g : D → List D → Option (D × D)) (k : Nat) (as : List E) : E :=
  bnd (own? k) fun _ => bnd (args as) fun xs => bnd (own? k) fun d => bnd (lift (g d xs)) fun r => bnd (putO k r.2) fun _ => ret r.1
def eCut (a : E) (lo hi : Option E) : E := bnd a fun x => bnd (match lo with | none => ret none | some l => bnd l fun y => lift ((int? y).map some)) fun i =>
  bnd (match hi with | none => ret none | some h => bnd h fun y => lift ((int? y).map some)) fun j => match x with
    | .tup ds => ret (.tup (cutD ds i j))
    | .lst ds => ret (.lst (cutD ds i j))
    | _ => fail
/-- list(range(n)) -/
def eLstRng (a : E) : E := bnd a fun x => match x with
  | .int n => if 0 ≤ n ∧ n ≤ 1000000 then ret (.lst ((List.range n.toNat).map fun (j : Nat) => D.int j)) else fail
  | _ => fail
/-- owned things, read as they stand -/
def eIxO (k : Nat) (a : E) : E := bnd (own? k) fun _ => bnd a fun i => bnd (own? k) fun d => lift (opIx d i)
def eGetO (k : Nat) (a b : E) : E := bnd (ownD? k) fun _ => bnd a fun x => bnd b fun y => bnd (own? k) fun d => match d with
  | .dic kvs => if kOk x ∧ depth x ≤ 8 then ret ((dget kvs x).getD y) else fail
  | _ => fail
def eGet (a b c : E) : E := bnd a fun d => bnd b fun x => bnd c fun y => match d with
  | .dic kvs => if kOk x ∧ depth x ≤ 8 then ret ((dget kvs x).getD y) else fail
  | _ => fail
def tNotInO (a : E) (k : Nat) : M Bool := bnd a fun x => bnd (own? k) fun d => match d with
  | .dic kvs => if kOk x ∧ depth x ≤ 8 then ret (!dhas kvs x) else fail
  | _ => fail
def tst (a : E) : M Bool := bnd a fun x => lift (bool? x)
def eB (t : M Bool) : E := bnd t fun b => ret (.bl b)
def tNot (t : M Bool) : M Bool := bnd t fun b => ret (!b)
def tAnd (t u : M Bool) : M Bool := bnd t fun b => if b then u else ret false
def tOr (t u : M Bool) : M Bool := bnd t fun b => if b then ret true else u
/-- and, or as values: all but the last are bools -/
def eAnd (a b : E) : E := bnd (tst a) fun x => if x then b else ret (.bl false)
def eOr (a b : E) : E := bnd (tst a) fun x => if x then ret (.bl true) else b
def eNot (a : E) : E := bnd (tst a) fun x => ret (.bl (!x))
def eIf (t : M Bool) (a b : E) : E := bnd t fun x => if x then a else b
/-- a op b op c -/
def eChain (f g : D → D → Option D) (a b c : E) : E := bnd a fun x => bnd b fun y => bnd (lift ((f x y).bind bool?)) fun k => if k then bnd c fun z => lift (g y z) else ret (.bl false)

/-! ### what is walked -/
abbrev I := M (List D)
def iSeq (a : E) : I := bnd a fun x => lift (seq? x)
def iRng (a : E) : I := bnd a fun x => match x with
  | .int n => if -(2 ^ 40) ≤ n ∧ n ≤ 2 ^ 40 then ret ((List.range n.toNat).map fun (j : Nat) => D.int j) else fail
  | _ => fail
/-- range(n, 0, -1) -/
def iDown (a b c : E) : I := bnd a fun x => bnd b fun y => bnd c fun z => match x, y, z with
  | .int n, .int 0, .int (-1) => if 0 ≤ n ∧ n ≤ 2 ^ 40 then ret ((List.range n.toNat).map fun (j : Nat) => D.int (n - j)) else fail
  | _, _, _ => fail
def iEnum (a : E) : I := bnd a fun x => match x with
  | .tup ds => ret (ds.zipIdx.map fun p => D.tup [.int p.2, p.1])
  | .lst ds => ret (ds.zipIdx.map fun p => D.tup [.int p.2, p.1])
  | _ => fail
def lt? : D → Option (List D)
  | .tup ds => some ds
  | .lst ds => some ds
  | _ => none
def iZip (a b : E) : I := bnd a fun x => bnd b fun y => match lt? x, lt? y with
  | some as, some bs => ret ((as.zip bs).map fun p => D.tup [p.1, p.2])
  | _, _ => fail

/-! ### targets -/
abbrev T := D → M Unit
def gN (k : Nat) : T := fun d ρ => if k < ρ.length then some ((), ρ.set k (.i d)) else none
def gs : List T → List D → M Unit
  | [], [] => ret ()
  | g :: gr, d :: ds => bnd (g d) fun _ => gs gr ds
  | _, _ => fail
def gT (ts : List T) : T := fun d => match d with
  | .tup ds => gs ts ds
  | _ => fail

/-- a list, a tuple walked -/
def iL (a : E) : I := bnd a fun x => match x with
  | .lst ds => ret ds
  | _ => fail
def iT (a : E) : I := bnd a fun x => match x with
  | .tup ds => ret ds
  | _ => fail

/-- a dict's keys walked -/
def iD (a : E) : I := bnd a fun x => match x with
  | .dic kvs => ret (kvs.map (·.1))
  | _ => fail

/-! ### comprehensions: own slots are forgotten ahead and behind -/
def wipeE (ρ : Env) : List Nat → Env
  | [] => ρ
  | v :: vs => (wipeE ρ vs).set v .u
def compL (vs : List Nat) (g : T) (t : M Bool) (e : E) : List D → M (List D)
  | [] => ret []
  | d :: ds => fun ρ => match bnd (g d) (fun _ => bnd t fun b => if b then bnd e fun y => ret (some y) else ret none) (wipeE ρ vs) with
    | none => none
    | some (r, ρ') => match compL vs g t e ds (wipeE ρ' vs) with
      | none => none
      | some (ys, ρ'') => some ((match r with | some y => y :: ys | none => ys), ρ'')
def tYes : M Bool := ret true
def eComp (vs : List Nat) (i : I) (g : T) (t : M Bool) (e : E) : E := bnd i fun ds => if ds.length ≤ 1000000 then bnd (fun ρ => some ((), wipeE ρ vs)) fun _ => bnd (compL vs g t e ds) fun ys => ret (.lst ys) else fail

/-! ### statements -/
inductive Ct | nx | rt (d : D)
  deriving Inhabited
abbrev S := M Ct
def sNx : S := ret .nx
def sSeq (a b : S) : S := bnd a fun c => match c with
  | .nx => b
  | .rt d => ret (.rt d)
def sRet (e : E) : S := bnd e fun d => ret (.rt d)
def sAsg (e : E) (g : T) : S := bnd e fun d => bnd (g d) fun _ => ret .nx
/-- a new container into slot k: owned -/
def sNew (k : Nat) (e : E) : S := bnd e fun d ρ => if k < ρ.length ∧ k ≠ 0 then some (.nx, ρ.set k (.o d)) else none
/-- a, b = x, y -/
def sPar (k l : Nat) (a b : E) : S := bnd a fun x => bnd b fun y => bnd (gN k x) fun _ => bnd (gN l y) fun _ => ret .nx
def sPar3 (k l m : Nat) (a b c : E) : S := bnd a fun x => bnd b fun y => bnd c fun z => bnd (gN k x) fun _ => bnd (gN l y) fun _ => bnd (gN m z) fun _ => ret .nx
def sParO (k l : Nat) (a b : E) : S := bnd a fun x => bnd b fun y ρ => if k < ρ.length ∧ l < ρ.length ∧ l ≠ 0 ∧ k ≠ l then some (.nx, (ρ.set k (.i x)).set l (.o y)) else none
def sParOO (k l : Nat) (a b : E) : S := bnd a fun x => bnd b fun y ρ => if k < ρ.length ∧ l < ρ.length ∧ k ≠ 0 ∧ l ≠ 0 ∧ k ≠ l then some (.nx, (ρ.set k (.o x)).set l (.o y)) else none
def sIf (t : M Bool) (a b : S) : S := bnd t fun x => if x then a else b
def sEx (e : E) : S := bnd e fun _ => ret .nx
def sApp (k : Nat) (e : E) : S := bnd (ownL? k) fun _ => bnd e fun y => bnd (own? k) fun d => match d with
  | .lst ds => if ds.length < 1000000 then bnd (putO k (.lst (ds ++ [y]))) fun _ => ret .nx else fail
  | _ => fail
def sExt (k : Nat) (e : E) : S := bnd (ownL? k) fun _ => bnd e fun y => bnd (own? k) fun d => match d, y with
  | .lst ds, .lst bs => if ds.length + bs.length < 1000000 then bnd (putO k (.lst (ds ++ bs))) fun _ => ret .nx else fail
  | _, _ => fail
def setAt (ds : List D) (i : Int) (y : D) : Option (List D) :=
  if 0 ≤ i ∧ i.toNat < ds.length then some (ds.set i.toNat y) else none
def setD : D → D → D → Option D
  | .lst ds, .int i, y => (setAt ds i y).map .lst
  | .dic kvs, k, y => if kOk k ∧ depth k ≤ 8 ∧ kvs.length < 1000000 then some (.dic (dput kvs k y)) else none
  | _, _, _ => none
/-- slot k [i] = y, the thing owned -/
def gSub (k : Nat) (i : E) : T := fun y => bnd (own? k) fun _ => bnd i fun x => bnd (own? k) fun d => bnd (lift (setD d x y)) fun d' => putO k d'
def sPop (k : Nat) (e : E) : S := bnd (ownD? k) fun _ => bnd e fun x => bnd (own? k) fun d => match d with
  | .dic kvs => if kOk x ∧ depth x ≤ 8 then bnd (putO k (.dic (ddrop kvs x))) fun _ => ret .nx else fail
  | _ => fail
/-- d.setdefault(k, []).append(v), d owned with its lists -/
def grp (kvs : List (D × D)) (k v : D) : List (D × D) :=
  if dhas kvs k then kvs.map fun p => if eqv p.1 k then (match p.2 with | .lst vs => (p.1, .lst (vs ++ [v])) | d => (p.1, d)) else p else kvs ++ [(k, .lst [v])]
def grpLen (kvs : List (D × D)) (k : D) : Nat := match dget kvs k with
  | some (.lst vs) => vs.length
  | _ => 0
def sGrp (k : Nat) (a b : E) : S := bnd (own? k) fun _ => bnd a fun x => bnd b fun y => bnd (own? k) fun d => match d with
  | .dic kvs => if kOk x ∧ depth x ≤ 8 ∧ kvs.length < 1000000 ∧ grpLen kvs x < 1000000 then bnd (putO k (.dic (grp kvs x y))) fun _ => ret .nx else fail
  | _ => fail
/-- slot k's instance gets its next attribute -/
def sFld (k : Nat) (f : Fd) (e : E) : S := bnd e fun y => bnd (own? k) fun d => match d with
  | .ins c fs => if fdIx f c = some fs.length then bnd (putO k (.ins c (fs ++ [y]))) fun _ => ret .nx else fail
  | _ => fail
def forL (g : T) (b : S) : List D → S
  | [] => ret .nx
  | d :: ds => bnd (g d) fun _ => bnd b fun c => match c with
    | .nx => forL g b ds
    | .rt r => ret (.rt r)
def sFor (i : I) (g : T) (b : S) : S := bnd i fun ds => forL g b ds
def sWhile (t : M Bool) (b : S) : Nat → S
  | 0 => fail
  | n + 1 => bnd t fun x => if x then bnd b fun c => match c with
      | .nx => sWhile t b n
      | .rt r => ret (.rt r)
    else ret .nx
def sNever : S := fail

/-! ### defs -/
def envOf (n : Nat) (ds : List D) : Env := ds.map Sl.i ++ List.replicate (n - ds.length) Sl.u
def envOfO (n : Nat) (d : D) (ds : List D) : Env := Sl.o d :: (ds.map Sl.i ++ List.replicate (n - 1 - ds.length) Sl.u)
/-- a def's value -/
def run (b : S) (n np : Nat) (ds : List D) : Option D := if ds.length = np then
    match b (envOf n ds) with
    | some (.rt d, _) => some d
    | some (.nx, _) => some .non
    | none => none
  else none
/-- a def that turns its first argument -/
def runO (b : S) (n np : Nat) (d : D) (ds : List D) : Option (D × D) := if ds.length + 1 = np then
    match b (envOfO n d ds) with
    | some (.rt r, .o d' :: _) => some (r, d')
    | some (.nx, .o d' :: _) => some (.non, d')
    | _ => none
  else none
/-- an instance made -/
def make (c : Cl) (g : D → List D → Option (D × D)) (ds : List D) : Option D := match g (.ins c []) ds with
  | some (.non, d) => some d
  | _ => none
end Pd
end
section
set_option linter.all false
/-! PdFns: the defs as pure functions. Printed by gen.py. -/
namespace Pd

/-- is_list -/
def m_is_list : S :=
  (sRet (e1 (opIsi .listTuple) (eV 0)))

def g_is_list (ds : List D) : Option D := run m_is_list 1 1 ds

/-- is_integer -/
def m_is_integer : S :=
  (sRet (eAnd (e1 (opIsi .int) (eV 0)) (eNot (e1 (opIsi .bool) (eV 0)))))

def g_is_integer (ds : List D) : Option D := run m_is_integer 1 1 ds

/-- is_number -/
def m_is_number : S :=
  (sRet (eOr (eCall g_is_integer [(eV 0)]) (e1 (opIsi (.cls .rat)) (eV 0))))

def g_is_number (ds : List D) : Option D := run m_is_number 1 1 ds

/-- is_count -/
def m_is_count : S :=
  (sRet (eAnd (eCall g_is_integer [(eV 0)]) (e2 opGe (eV 0) (eC (.int 0)))))

def g_is_count (ds : List D) : Option D := run m_is_count 1 1 ds

/-- is_letter_of -/
def m_is_letter_of : S :=
  (sSeq (sIf (tOr (tNot (tst (e1 (opIsi .tuple) (eV 1)))) (tst (e2 opNe (eCall (a1 opLen) [(eV 1)]) (eV 0)))) (sRet (eC (.bl false))) sNx)
    (sRet (eCall (a1 opAll) [(eComp [2] (iT (eV 1)) (gN 2) tYes (eAnd (eCall g_is_count [(eV 2)]) (e2 opLe (eV 2) (eC (.int 8)))))])))

def g_is_letter_of (ds : List D) : Option D := run m_is_letter_of 3 2 ds

/-- is_word_of -/
def m_is_word_of : S :=
  (sSeq (sIf (tOr (tNot (tst (e1 (opIsi .tuple) (eV 1)))) (tst (e2 opGt (eCall (a1 opLen) [(eV 1)]) (eC (.int 8))))) (sRet (eC (.bl false))) sNx)
    (sRet (eCall (a1 opAll) [(eComp [2] (iT (eV 1)) (gN 2) tYes (eCall g_is_letter_of [(eV 0), (eV 2)]))])))

def g_is_word_of (ds : List D) : Option D := run m_is_word_of 3 2 ds

/-- term_length -/
def m_term_length : S :=
  (sRet (e2 opAdd (e2 opAdd (eCall (a1 opLen) [(e2 opIx (eV 0) (eC (.int 0)))]) (eC (.int 1))) (eCall (a1 opLen) [(e2 opIx (eV 0) (eC (.int 2)))])))

def g_term_length (ds : List D) : Option D := run m_term_length 1 1 ds

/-- is_term -/
def m_is_term : S :=
  (sSeq (sIf (tOr (tNot (tst (e1 (opIsi .tuple) (eV 1)))) (tst (e2 opNe (eCall (a1 opLen) [(eV 1)]) (eC (.int 3))))) (sRet (eC (.bl false))) sNx)
    (sSeq (sAsg (eV 1) (gT [(gN 2), (gN 3), (gN 4)]))
    (sSeq (sIf (tOr (tNot (tst (eCall g_is_word_of [(eV 0), (eV 2)]))) (tOr (tNot (tst (eCall g_is_letter_of [(eV 0), (eV 3)]))) (tNot (tst (eCall g_is_word_of [(eV 0), (eV 4)]))))) (sRet (eC (.bl false))) sNx)
    (sRet (e2 opLe (eCall g_term_length [(eV 1)]) (eC (.int 8)))))))

def g_is_term (ds : List D) : Option D := run m_is_term 5 2 ds

/-- is_term_part -/
def m_is_term_part : S :=
  (sRet (eAnd (e1 (opIsi .tuple) (eV 1)) (eAnd (e2 opEq (eCall (a1 opLen) [(eV 1)]) (eC (.int 2))) (eAnd (eCall g_is_term [(eV 0), (e2 opIx (eV 1) (eC (.int 0)))]) (eCall g_is_number [(e2 opIx (eV 1) (eC (.int 1)))])))))

def g_is_term_part (ds : List D) : Option D := run m_is_term_part 2 2 ds

/-- put_more -/
def m_put_more : S :=
  (sAsg (e2 opAdd (eGetO 0 (eV 1) (eC (.int 0))) (eV 2)) (gSub 0 (eV 1)))

def g_put_more (d : D) (ds : List D) : Option (D × D) := runO m_put_more 3 3 d ds

/-- divisor_of -/
def m_divisor_of : S :=
  (sRet (eCall (a2 opGcd) [(eV 0), (eV 1)]))

def g_divisor_of (ds : List D) : Option D := run m_divisor_of 2 2 ds

/-- Ratio.__init__ -/
def m_Ratio_init : S :=
  (sSeq (sIf (tNot (tst (eCall g_is_integer [(eV 1)]))) sNever sNx)
    (sSeq (sIf (tOr (tNot (tst (eCall g_is_integer [(eV 2)]))) (tst (e2 opEq (eV 2) (eC (.int 0))))) sNever sNx)
    (sSeq (sAsg (eCall g_divisor_of [(eV 1), (eV 2)]) (gN 3))
    (sSeq (sIf (tst (e2 opLt (eV 2) (eC (.int 0)))) (sAsg (e2 opSub (eC (.int 0)) (eV 3)) (gN 3)) sNx)
    (sSeq (sFld 0 .top (e2 opDiv (eV 1) (eV 3)))
    (sFld 0 .bottom (e2 opDiv (eV 2) (eV 3))))))))

def g_Ratio_init (d : D) (ds : List D) : Option (D × D) := runO m_Ratio_init 4 3 d ds

def mkRat (ds : List D) : Option D := make .rat g_Ratio_init ds
def mkRat1 (ds : List D) : Option D := make .rat g_Ratio_init (ds ++ [.int 1])

/-- ratio_of -/
def m_ratio_of : S :=
  (sRet (eIf (tst (e1 (opIsi (.cls .rat)) (eV 0))) (eV 0) (eCall mkRat1 [(eV 0)])))

def g_ratio_of (ds : List D) : Option D := run m_ratio_of 1 1 ds

/-- sums_told -/
def m_sums_told : S :=
  (sRet (eComp [2] (iL (eCall (a1 opSorted) [(eCall (a1 opList) [(eV 1)])])) (gN 2) (tst (e2 opNe (e2 opIx (eV 1) (eV 2)) (eC (.int 0)))) (eTup [(eV 2), (eCall mkRat [(e2 opIx (eV 1) (eV 2)), (eV 0)])])))

def g_sums_told (ds : List D) : Option D := run m_sums_told 3 2 ds

/-- wholes -/
def m_wholes : S :=
  (sSeq (sAsg (eC (.int 1)) (gN 1))
    (sSeq (sFor (iL (eV 0)) (gN 2) (sAsg (eCall (a2 opLcm) [(eV 1), (e1 (opFld .bottom) (eV 2))]) (gN 1)))
    (sRet (eTup [(eV 1), (eComp [2] (iL (eV 0)) (gN 2) tYes (e2 opMul (e1 (opFld .top) (eV 2)) (e2 opDiv (eV 1) (e1 (opFld .bottom) (eV 2)))))]))))

def g_wholes (ds : List D) : Option D := run m_wholes 3 1 ds

/-- parts_joined -/
def m_parts_joined : S :=
  (sSeq (sAsg (eCall g_wholes [(eComp [5, 6] (iL (eV 0)) (gT [(gN 5), (gN 6)]) tYes (eCall g_ratio_of [(eV 6)]))]) (gT [(gN 2), (gN 3)]))
    (sSeq (sNew 1 eDic)
    (sSeq (sFor (iZip (eV 0) (eV 3)) (gT [(gT [(gN 5), (gN 6)]), (gN 4)]) (sEx (eCallO g_put_more 1 [(eV 5), (eV 4)])))
    (sRet (eCall g_sums_told [(eV 2), (eV 1)])))))

def g_parts_joined (ds : List D) : Option D := run m_parts_joined 7 1 ds

/-- want_columns -/
def m_want_columns : S :=
  (sIf (tOr (tNot (tst (eCall g_is_count [(eV 0)]))) (tst (e2 opGt (eV 0) (eC (.int 3))))) sNever sNx)

def g_want_columns (ds : List D) : Option D := run m_want_columns 1 1 ds

/-- Form.__init__ -/
def m_Form_init : S :=
  (sSeq (sEx (eCall g_want_columns [(eV 1)]))
    (sSeq (sIf (tOr (tNot (tst (eCall g_is_list [(eV 2)]))) (tOr (tst (e2 opGt (eCall (a1 opLen) [(eV 2)]) (eC (.int 400)))) (tNot (tst (eCall (a1 opAll) [(eComp [3] (iL (eV 2)) (gN 3) tYes (eCall g_is_term_part [(eV 1), (eV 3)]))]))))) sNever sNx)
    (sSeq (sFld 0 .columns (eV 1))
    (sFld 0 .parts (eCall g_parts_joined [(eV 2)])))))

def g_Form_init (d : D) (ds : List D) : Option (D × D) := runO m_Form_init 4 3 d ds

/-- told_pair -/
def m_told_pair : S :=
  (sSeq (sIf (tst (e1 (opIsi (.cls .rat)) (eV 0))) (sRet (eTup [(e1 (opFld .top) (eV 0)), (e1 (opFld .bottom) (eV 0))])) sNx)
    (sSeq (sIf (tNot (tst (eCall g_is_integer [(eV 0)]))) sNever sNx)
    (sRet (eTup [(eV 0), (eC (.int 1))]))))

def g_told_pair (ds : List D) : Option D := run m_told_pair 1 1 ds

/-- Ratio.__add__ -/
def m_Ratio_add : S :=
  (sSeq (sAsg (eCall g_told_pair [(eV 1)]) (gT [(gN 2), (gN 3)]))
    (sRet (eCall mkRat [(e2 opAdd (e2 opMul (e1 (opFld .top) (eV 0)) (eV 3)) (e2 opMul (eV 2) (e1 (opFld .bottom) (eV 0)))), (e2 opMul (e1 (opFld .bottom) (eV 0)) (eV 3))])))

def g_Ratio_add (ds : List D) : Option D := run m_Ratio_add 4 2 ds

def opAddR (d e : D) : Option D := match d, e with
  | .ins .rat _, .ins .rat _ => g_Ratio_add [d, e]
  | .ins .rat _, .int _ => g_Ratio_add [d, e]
  | _, _ => none

/-- Ratio.__eq__ -/
def m_Ratio_eq : S :=
  (sSeq (sIf (tNot (tst (e1 (opIsi (.cls .rat)) (eV 1)))) (sRet (eC (.bl false))) sNx)
    (sRet (eAnd (e2 opEq (e1 (opFld .top) (eV 0)) (e1 (opFld .top) (eV 1))) (e2 opEq (e1 (opFld .bottom) (eV 0)) (e1 (opFld .bottom) (eV 1))))))

def g_Ratio_eq (ds : List D) : Option D := run m_Ratio_eq 2 2 ds

def opEqR (d e : D) : Option D := match d, e with
  | .ins .rat _, .ins .rat _ => g_Ratio_eq [d, e]
  | _, _ => none
def opNeR (d e : D) : Option D := match opEqR d e with
  | some (.bl b) => some (.bl (!b))
  | _ => none

/-- Ratio.__mul__ -/
def m_Ratio_mul : S :=
  (sSeq (sAsg (eCall g_told_pair [(eV 1)]) (gT [(gN 2), (gN 3)]))
    (sRet (eCall mkRat [(e2 opMul (e1 (opFld .top) (eV 0)) (eV 2)), (e2 opMul (e1 (opFld .bottom) (eV 0)) (eV 3))])))

def g_Ratio_mul (ds : List D) : Option D := run m_Ratio_mul 4 2 ds

def opMulR (d e : D) : Option D := match d, e with
  | .ins .rat _, .ins .rat _ => g_Ratio_mul [d, e]
  | .ins .rat _, .int _ => g_Ratio_mul [d, e]
  | _, _ => none

/-- Ratio.__neg__ -/
def m_Ratio_neg : S :=
  (sRet (eCall mkRat [(e2 opSub (eC (.int 0)) (e1 (opFld .top) (eV 0))), (e1 (opFld .bottom) (eV 0))]))

def g_Ratio_neg (ds : List D) : Option D := run m_Ratio_neg 1 1 ds

def opNegR (d : D) : Option D := match d with
  | .ins .rat _ => g_Ratio_neg [d]
  | _ => none

/-- Ratio.is_whole -/
def m_Ratio_is_whole : S :=
  (sRet (e2 opEq (e1 (opFld .bottom) (eV 0)) (eC (.int 1))))

def g_Ratio_is_whole (ds : List D) : Option D := run m_Ratio_is_whole 1 1 ds

/-- Ratio.sign -/
def m_Ratio_sign : S :=
  (sRet (e2 opSub (eCall (a1 opInt) [(e2 opGt (e1 (opFld .top) (eV 0)) (eC (.int 0)))]) (eCall (a1 opInt) [(e2 opLt (e1 (opFld .top) (eV 0)) (eC (.int 0)))])))

def g_Ratio_sign (ds : List D) : Option D := run m_Ratio_sign 1 1 ds

/-- Ratio.top -/
def m_Ratio_top : S :=
  (sRet (e1 (opFld .top) (eV 0)))

def g_Ratio_top (ds : List D) : Option D := run m_Ratio_top 1 1 ds

/-- is_row -/
def m_is_row : S :=
  (sRet (eAnd (eCall g_is_list [(eV 1)]) (eAnd (e2 opEq (eCall (a1 opLen) [(eV 1)]) (eV 0)) (eCall (a1 opAll) [(eComp [2] (iL (eV 1)) (gN 2) tYes (eCall g_is_number [(eV 2)]))]))))

def g_is_row (ds : List D) : Option D := run m_is_row 3 2 ds

/-- told_row -/
def m_told_row : S :=
  (sRet (eCall (a1 opTuple) [(eComp [1] (iL (eV 0)) (gN 1) tYes (eCall g_ratio_of [(eV 1)]))]))

def g_told_row (ds : List D) : Option D := run m_told_row 2 1 ds

/-- Table.__init__ -/
def m_Table_init : S :=
  (sSeq (sEx (eCall g_want_columns [(eV 1)]))
    (sSeq (sIf (tOr (tNot (tst (eCall g_is_list [(eV 2)]))) (tOr (tst (e2 opGt (eCall (a1 opLen) [(eV 2)]) (eC (.int 40)))) (tNot (tst (eCall (a1 opAll) [(eComp [3] (iL (eV 2)) (gN 3) tYes (eCall g_is_row [(eV 1), (eV 3)]))]))))) sNever sNx)
    (sSeq (sFld 0 .columns (eV 1))
    (sFld 0 .rows (eCall (a1 opTuple) [(eComp [3] (iL (eV 2)) (gN 3) tYes (eCall g_told_row [(eV 3)]))])))))

def g_Table_init (d : D) (ds : List D) : Option (D × D) := runO m_Table_init 4 3 d ds

/-- Table.columns -/
def m_Table_columns : S :=
  (sRet (e1 (opFld .columns) (eV 0)))

def g_Table_columns (ds : List D) : Option D := run m_Table_columns 1 1 ds

/-- Table.height -/
def m_Table_height : S :=
  (sRet (eCall (a1 opLen) [(e1 (opFld .rows) (eV 0))]))

def g_Table_height (ds : List D) : Option D := run m_Table_height 1 1 ds

/-- Table.rows -/
def m_Table_rows : S :=
  (sRet (eComp [1] (iT (e1 (opFld .rows) (eV 0))) (gN 1) tYes (eCall (a1 opList) [(eV 1)])))

def g_Table_rows (ds : List D) : Option D := run m_Table_rows 2 1 ds

/-- _law_arranged -/
def m__law_arranged (rec : List D → Option D) : S :=
  (sSeq (sIf (tst (e2 opEq (eV 0) (eLst []))) (sRet (eLst [(eTup [])])) sNx)
    (sSeq (sNew 1 (eLst []))
    (sSeq (sFor (iEnum (eV 0)) (gT [(gN 2), (gN 3)]) (sIf (tst (e2 opNotIn (eV 3) (eCut (eV 0) none (some (eV 2))))) (sExt 1 (eComp [4] (iL (eCall rec [(e2 opCat (eCut (eV 0) none (some (eV 2))) (eCut (eV 0) (some (e2 opAdd (eV 2) (eC (.int 1)))) none))])) (gN 4) tYes (e2 opAdd (eTup [(eV 3)]) (eV 4)))) sNx))
    (sRet (eV 1)))))

def g__law_arranged : Nat → List D → Option D
  | 0 => fun _ => none
  | n + 1 => run (m__law_arranged (g__law_arranged n)) 5 1

/-- _law_at -/
def m__law_at : S :=
  (sSeq (sAsg (eC (.int 1)) (gN 2))
    (sSeq (sFor (iZip (eV 0) (eV 1)) (gT [(gN 3), (gN 4)]) (sFor (iRng (eV 3)) (gN 5) (sAsg (e2 opMul (eV 2) (eV 4)) (gN 2))))
    (sRet (eV 2))))

def g__law_at (ds : List D) : Option D := run m__law_at 6 2 ds

/-- _law_draw -/
def m__law_draw : S :=
  (sSeq (sIf (tst (e2 opGt (eIxO 0 (eC (.int 0))) (eC (.int 0)))) (sSeq (sAsg (eCall (a2 opDivmod) [(eIxO 0 (eC (.int 0))), (eV 1)]) (gT [(gSub 0 (eC (.int 0))), (gN 2)]))
    (sRet (eV 2))) sNx)
    (sSeq (sAsg (e2 opMod (eCall (a1 opInt) [(e2 opAdd (e2 opMul (eIxO 0 (eC (.int 1))) (eC (.int 48271))) (eC (.int 17609)))]) (eC (.int 2147483587))) (gSub 0 (eC (.int 1))))
    (sRet (e2 opMod (eCall (a1 opInt) [(e2 opDiv (e2 opMod (eCall (a1 opInt) [(e2 opMul (eIxO 0 (eC (.int 1))) (eIxO 0 (eC (.int 1))))]) (eC (.int 2147483549))) (eC (.int 13)))]) (eV 1)))))

def g__law_draw (d : D) (ds : List D) : Option (D × D) := runO m__law_draw 3 2 d ds

/-- _law_letter -/
def m__law_letter : S :=
  (sRet (eCall (a1 opTuple) [(eComp [2] (iRng (eV 1)) (gN 2) tYes (eCallO g__law_draw 0 [(eC (.int 3))]))]))

def g__law_letter (d : D) (ds : List D) : Option (D × D) := runO m__law_letter 3 2 d ds

/-- _law_pick -/
def m__law_pick : S :=
  (sRet (e2 opIx (eV 1) (eCallO g__law_draw 0 [(eCall (a1 opLen) [(eV 1)])])))

def g__law_pick (d : D) (ds : List D) : Option (D × D) := runO m__law_pick 2 2 d ds

/-- _law_ways -/
def m__law_ways : S :=
  (sSeq (sNew 1 (eLst []))
    (sSeq (sFor (iL (eCall (g__law_arranged 6) [(eV 0)])) (gN 2) (sExt 1 (eComp [3] (iRng (e2 opAdd (eCall (a1 opLen) [(eV 2)]) (eC (.int 1)))) (gN 3) tYes (eTup [(eCut (eV 2) none (some (eV 3))), (eCut (eV 2) (some (eV 3)) none)]))))
    (sRet (eV 1))))

def g__law_ways (ds : List D) : Option D := run m__law_ways 4 1 ds

/-- _law_form -/
def m__law_form : S :=
  (sSeq (sNew 3 eDic)
    (sSeq (sFor (iRng (e2 opIx (eLst [(eC (.int 0)), (eC (.int 1)), (eC (.int 1)), (eC (.int 2)), (eC (.int 2))]) (eCallO g__law_draw 0 [(eC (.int 5))]))) (gN 4) (sSeq (sPar 6 7 (eCallO g__law_letter 0 [(eV 1)]) (e2 opSub (eCallO g__law_draw 0 [(eC (.int 7))]) (eC (.int 3))))
    (sSeq (sAsg (eCall g__law_ways [(eComp [11] (iRng (eCallO g__law_draw 0 [(e2 opAdd (eV 2) (eC (.int 1)))])) (gN 11) tYes (eCallO g__law_letter 0 [(eV 1)]))]) (gN 5))
    (sSeq (sIf (tst (e2 opEq (eCallO g__law_draw 0 [(eC (.int 2))]) (eC (.int 0)))) (sAsg (eLst [(eCallO g__law_pick 0 [(eV 5)])]) (gN 5)) sNx)
    (sFor (iL (eV 5)) (gT [(gN 8), (gN 9)]) (sAsg (e2 opAdd (eGetO 3 (eTup [(eV 8), (eV 6), (eV 9)]) (eC (.int 0))) (eV 7)) (gSub 3 (eTup [(eV 8), (eV 6), (eV 9)]))))))))
    (sRet (eCall (a1 opDict) [(eComp [10] (iL (eCall (a1 opSorted) [(eV 3)])) (gN 10) (tst (e2 opNe (e2 opIx (eV 3) (eV 10)) (eC (.int 0)))) (eTup [(eV 10), (e2 opIx (eV 3) (eV 10))]))]))))

def g__law_form (d : D) (ds : List D) : Option (D × D) := runO m__law_form 12 3 d ds

/-- _law_held -/
def m__law_held : S :=
  (sSeq (sNew 1 (eLst []))
    (sSeq (sFor (iD (eV 0)) (gT [(gN 2), (gN 3), (gN 4)]) (sSeq (sAsg (eComp [6, 7] (iL (eCall g__law_ways [(eCall (a1 opSorted) [(e2 opAdd (eV 2) (eV 4))])])) (gT [(gN 6), (gN 7)]) tYes (eGet (eV 0) (eTup [(eV 6), (eV 3), (eV 7)]) (eC (.int 0)))) (gN 5))
    (sIf (tst (e2 opGt (e1 opSetLen (eV 5)) (eC (.int 1)))) (sApp 1 (e2 opAdd (e2 opAdd (eCall (a1 opLen) [(eV 2)]) (eCall (a1 opLen) [(eV 4)])) (eC (.int 1)))) sNx)))
    (sRet (eCall (a1 opSorted) [(eV 1)]))))

def g__law_held (ds : List D) : Option D := run m__law_held 8 1 ds

/-- _law_moved -/
def m__law_moved : S :=
  (sSeq (sIf (tst (e2 opEq (eV 0) (eV 1))) (sRet (e2 opAdd (eV 1) (eC (.int 1)))) sNx)
    (sRet (eIf (tst (e2 opEq (eV 0) (e2 opAdd (eV 1) (eC (.int 1))))) (eV 1) (eV 0))))

def g__law_moved (ds : List D) : Option D := run m__law_moved 2 2 ds

/-- _law_plain -/
def m__law_plain : S :=
  (sSeq (sNew 1 (eLst []))
    (sSeq (sFor (iL (eV 0)) (gN 2) (sApp 1 (eComp [3] (iL (eV 2)) (gN 3) tYes (eIf (tst (e1 (opPrp .rat g_Ratio_is_whole) (eV 3))) (e1 (opPrp .rat g_Ratio_top) (eV 3)) (eV 3)))))
    (sRet (eV 1))))

def g__law_plain (ds : List D) : Option D := run m__law_plain 4 1 ds

/-- _law_sum -/
def m__law_sum : S :=
  (sSeq (sNew 2 (e2 opCat (eLst [(eC (.int 1))]) (e2 opRep (eLst [(eC (.int 0))]) (eCall (a1 opLen) [(eV 0)]))))
    (sSeq (sFor (iL (eV 1)) (gN 3) (sFor (iDown (eCall (a1 opLen) [(eV 0)]) (eC (.int 0)) (e1 opNeg (eC (.int 1)))) (gN 4) (sAsg (e2 opAdd (eIxO 2 (eV 4)) (e2 opMul (eIxO 2 (e2 opSub (eV 4) (eC (.int 1)))) (eCall g__law_at [(e2 opIx (eV 0) (e2 opSub (eV 4) (eC (.int 1)))), (eV 3)]))) (gSub 2 (eV 4)))))
    (sRet (eIxO 2 (e1 opNeg (eC (.int 1)))))))

def g__law_sum (ds : List D) : Option D := run m__law_sum 5 2 ds

/-- _law_result -/
def m__law_result : S :=
  (sRet (eCall (a1 opSum) [(eComp [3] (iD (eV 0)) (gN 3) tYes (e2 opMul (e2 opMul (e2 opMul (e2 opIx (eV 0) (eV 3)) (eCall g__law_sum [(e2 opIx (eV 3) (eC (.int 0))), (eCut (eV 1) none (some (eV 2)))])) (eCall g__law_at [(e2 opIx (eV 3) (eC (.int 1))), (e2 opIx (eV 1) (eV 2))])) (eCall g__law_sum [(e2 opIx (eV 3) (eC (.int 2))), (eCut (eV 1) (some (e2 opAdd (eV 2) (eC (.int 1)))) none)])))]))

def g__law_result (ds : List D) : Option D := run m__law_result 4 3 ds

/-- _law_is_exchange -/
def m__law_is_exchange : S :=
  (sSeq (sIf (tOr (tNot (tst (e1 (opIsi .tuple) (eV 3)))) (tOr (tst (e2 opNe (eCall (a1 opLen) [(eV 3)]) (eC (.int 3)))) (tOr (tNot (tst (e1 (opIsi (.cls .tab)) (e2 opIx (eV 3) (eC (.int 0)))))) (tOr (tst (e2 opNe (e1 (opPrp .tab g_Table_columns) (e2 opIx (eV 3) (eC (.int 0)))) (eV 1))) (tst (e2 opNe (e1 (opPrp .tab g_Table_height) (e2 opIx (eV 3) (eC (.int 0)))) (eV 2))))))) (sRet (eC (.bl false))) sNx)
    (sSeq (sPar3 6 7 8 (eCall g__law_plain [(e1 (opPrp .tab g_Table_rows) (e2 opIx (eV 3) (eC (.int 0))))]) (e2 opIx (eV 3) (eC (.int 1))) (e2 opIx (eV 3) (eC (.int 2))))
    (sSeq (sIf (tOr (tNot (tst (eCall (a1 opAll) [(eComp [9] (iT (eCut (eV 3) (some (eC (.int 1))) none)) (gN 9) tYes (e1 (opIsi .int) (eV 9)))]))) (tOr (tNot (tst (eChain opLe opLt (eC (.int 0)) (eV 7) (eV 2)))) (tNot (tst (eChain opLe opLt (eC (.int 0)) (eV 8) (e2 opSub (eV 2) (eC (.int 1)))))))) (sRet (eC (.bl false))) sNx)
    (sSeq (sAsg (e2 opCat (e2 opCat (eCut (eV 6) none (some (eV 8))) (eLst [(e2 opIx (eV 6) (e2 opAdd (eV 8) (eC (.int 1)))), (e2 opIx (eV 6) (eV 8))])) (eCut (eV 6) (some (e2 opAdd (eV 8) (eC (.int 2)))) none)) (gN 4))
    (sSeq (sAsg (eCall g__law_moved [(eV 7), (eV 8)]) (gN 5))
    (sRet (e2 opNeR (e2 opAddR (eCall mkRat1 [(eC (.int 0))]) (eCall g__law_result [(eV 0), (eV 6), (eV 7)])) (e2 opAddR (eCall mkRat1 [(eC (.int 0))]) (eCall g__law_result [(eV 0), (eV 4), (eV 5)])))))))))

def g__law_is_exchange (ds : List D) : Option D := run m__law_is_exchange 10 4 ds

/-- _law_pot -/
def m__law_pot : S :=
  (sSeq (sAsg (e2 opAdd (e2 opAdd (e2 opMul (eC (.int 929)) (eV 1)) (eC (.int 857))) (e2 opMod (eCall (a1 opSum) [(eCut (eV 0) none (some (eC (.int 1))))]) (eC (.int 1000003)))) (gN 2))
    (sSeq (sIf (tst (e2 opLt (eV 1) (eCall (a1 opLen) [(eV 0)]))) (sAsg (eCall (a1 opAbs) [(e2 opIx (eV 0) (eV 1))]) (gN 2)) sNx)
    (sRet (eLst [(eCall (a2 opMax2) [(eC (.int 0)), (e2 opSub (eV 2) (e2 opPow (eC (.int 10)) (eC (.int 18))))]), (e2 opAdd (e2 opMod (e2 opMul (eCall (a1 opInt) [(e2 opAdd (e2 opMod (eCall (a1 opInt) [(eV 2)]) (eC (.int 2147483549))) (eC (.int 17609)))]) (e2 opPow (e2 opAdd (e2 opMul (eC (.int 2)) (eV 1)) (eC (.int 7))) (eC (.int 3)))) (eC (.int 2147483477))) (eC (.int 1)))]))))

def g__law_pot (ds : List D) : Option D := run m__law_pot 3 2 ds

/-- _law_rows -/
def m__law_rows : S :=
  (sRet (eComp [3] (iRng (eV 2)) (gN 3) tYes (eComp [4] (iRng (eV 1)) (gN 4) tYes (e2 opSub (eCallO g__law_draw 0 [(eC (.int 6))]) (eC (.int 2))))))

def g__law_rows (d : D) (ds : List D) : Option (D × D) := runO m__law_rows 5 3 d ds

/-- are_alike -/
def m_are_alike : S :=
  (sRet (eAnd (e2 opEq (eCall (a1 opLen) [(eV 0)]) (eV 1)) (eCall (a1 opAll) [(eComp [2] (iL (eV 0)) (gN 2) tYes (e2 opEqR (eV 2) (e2 opIx (eV 0) (eC (.int 0)))))])))

def g_are_alike (ds : List D) : Option D := run m_are_alike 3 2 ds

/-- arrangements_many -/
def m_arrangements_many : S :=
  (sSeq (sAsg (eTup [(eC (.int 1)), (eC .non), (eC (.int 0))]) (gT [(gN 1), (gN 2), (gN 3)]))
    (sSeq (sFor (iEnum (eV 0)) (gT [(gN 4), (gN 5)]) (sSeq (sAsg (eIf (tst (e2 opEq (eV 5) (eV 2))) (e2 opAdd (eV 3) (eC (.int 1))) (eC (.int 1))) (gN 3))
    (sPar 1 2 (e2 opDiv (e2 opMul (eV 1) (e2 opAdd (eV 4) (eC (.int 1)))) (eV 3)) (eV 5))))
    (sRet (eV 1))))

def g_arrangements_many (ds : List D) : Option D := run m_arrangements_many 6 1 ds

/-- grouped -/
def m_grouped : S :=
  (sSeq (sNew 1 eDic)
    (sSeq (sFor (iL (eV 0)) (gT [(gN 2), (gN 3)]) (sGrp 1 (eV 2) (eV 3)))
    (sRet (eV 1))))

def g_grouped (ds : List D) : Option D := run m_grouped 4 1 ds

/-- barring_at -/
def m_barring_at : S :=
  (sSeq (sAsg (eComp [6] (iL (eV 0)) (gN 6) tYes (eTup [(eTup [(e2 opIx (e2 opIx (eV 6) (eC (.int 0))) (eC (.int 1))), (eCall (a1 opTuple) [(eCall (a1 opSorted) [(e2 opAdd (e2 opIx (e2 opIx (eV 6) (eC (.int 0))) (eC (.int 0))) (e2 opIx (e2 opIx (eV 6) (eC (.int 0))) (eC (.int 2))))])])]), (e2 opIx (eV 6) (eC (.int 1)))])) (gN 1))
    (sSeq (sAsg (eCall g_grouped [(eV 1)]) (gN 2))
    (sSeq (sNew 3 (eLst []))
    (sSeq (sFor (iD (eV 2)) (gN 4) (sSeq (sAsg (e2 opIx (eV 4) (eC (.int 1))) (gN 5))
    (sIf (tNot (tst (eCall g_are_alike [(e2 opIx (eV 2) (eV 4)), (e2 opMul (eCall g_arrangements_many [(eV 5)]) (e2 opAdd (eCall (a1 opLen) [(eV 5)]) (eC (.int 1))))]))) (sApp 3 (eV 4)) sNx)))
    (sRet (eV 3))))))

def g_barring_at (ds : List D) : Option D := run m_barring_at 7 1 ds

/-- marked -/
def m_marked : S :=
  (sSeq (sAsg (eV 0) (gT [(gT [(gN 2), (gN 3), (gN 4)]), (gN 1)]))
    (sRet (eTup [(e2 opAdd (e2 opAdd (eV 2) (eTup [(eV 3)])) (eV 4)), (eCall (a1 opLen) [(eV 2)]), (eV 1)])))

def g_marked (ds : List D) : Option D := run m_marked 5 1 ds

/-- raised -/
def m_raised : S :=
  (sSeq (sAsg (eC (.int 1)) (gN 2))
    (sSeq (sFor (iRng (eV 1)) (gN 3) (sAsg (e2 opMul (eV 2) (eV 0)) (gN 2)))
    (sRet (eV 2))))

def g_raised (ds : List D) : Option D := run m_raised 4 2 ds

/-- with_less -/
def m_with_less : S :=
  (sSeq (sAsg (e2 opAddR (eGetO 0 (eV 1) (eCall mkRat1 [(eC (.int 0))])) (eV 2)) (gN 3))
    (sIf (tst (e2 opEq (e1 (opPrp .rat g_Ratio_sign) (eV 3)) (eC (.int 0)))) (sPop 0 (eV 1)) (sAsg (eV 3) (gSub 0 (eV 1)))))

def g_with_less (d : D) (ds : List D) : Option (D × D) := runO m_with_less 4 3 d ds

/-- at_number -/
def m_at_number : S :=
  (sSeq (sNew 4 eDic)
    (sSeq (sFor (iD (eV 0)) (gN 5) (sSeq (sAsg (e2 opIx (e2 opIx (eV 5) (eV 1)) (eV 2)) (gN 6))
    (sSeq (sAsg (e2 opAdd (e2 opAdd (eCut (e2 opIx (eV 5) (eV 1)) none (some (eV 2))) (eTup [(eC (.int 0))])) (eCut (e2 opIx (eV 5) (eV 1)) (some (e2 opAdd (eV 2) (eC (.int 1)))) none)) (gN 7))
    (sIf (tOr (tst (e2 opEq (eV 6) (eC (.int 0)))) (tst (e2 opNe (eV 3) (eC (.int 0))))) (sEx (eCallO g_with_less 4 [(e2 opAdd (e2 opAdd (eCut (eV 5) none (some (eV 1))) (eTup [(eV 7)])) (eCut (eV 5) (some (e2 opAdd (eV 1) (eC (.int 1)))) none)), (e2 opMulR (e2 opIx (eV 0) (eV 5)) (eCall g_raised [(eV 3), (eV 6)]))])) sNx))))
    (sRet (eV 4))))

def g_at_number (ds : List D) : Option D := run m_at_number 8 4 ds

/-- rows_for -/
def m_rows_for : S :=
  (sSeq (sNew 3 (eLst []))
    (sSeq (sFor (iRng (eV 1)) (gN 4) (sSeq (sNew 5 (eLst []))
    (sSeq (sFor (iRng (eV 0)) (gN 6) (sSeq (sAsg (eC (.int 0)) (gN 7))
    (sSeq (sWhile (tst (e2 opEqE (eCall g_at_number [(eV 2), (eV 4), (eV 6), (eV 7)]) eDic)) (sAsg (e2 opAdd (eV 7) (eC (.int 1))) (gN 7)) 10)
    (sSeq (sAsg (eCall g_at_number [(eV 2), (eV 4), (eV 6), (eV 7)]) (gN 2))
    (sApp 5 (eV 7))))))
    (sApp 3 (eV 5)))))
    (sRet (eV 3))))

def g_rows_for (ds : List D) : Option D := run m_rows_for 8 3 ds

/-- moved_to -/
def m_moved_to : S :=
  (sSeq (sIf (tst (e2 opEq (eV 0) (eV 1))) (sRet (e2 opAdd (eV 1) (eC (.int 1)))) sNx)
    (sRet (eIf (tst (e2 opEq (eV 0) (e2 opAdd (eV 1) (eC (.int 1))))) (eV 1) (eV 0))))

def g_moved_to (ds : List D) : Option D := run m_moved_to 2 2 ds

/-- with_exchange -/
def m_with_exchange : S :=
  (sRet (e2 opAdd (e2 opAdd (eCut (eV 0) none (some (eV 1))) (eTup [(e2 opIx (eV 0) (e2 opAdd (eV 1) (eC (.int 1)))), (e2 opIx (eV 0) (eV 1))])) (eCut (eV 0) (some (e2 opAdd (eV 1) (eC (.int 2)))) none)))

def g_with_exchange (ds : List D) : Option D := run m_with_exchange 2 2 ds

/-- unlike_at -/
def m_unlike_at : S :=
  (sSeq (sNew 3 eDic)
    (sSeq (sFor (iL (eV 0)) (gT [(gN 4), (gN 5), (gN 6)]) (sSeq (sIf (tst (e2 opEq (eV 5) (eV 1))) (sEx (eCallO g_with_less 3 [(eV 4), (eV 6)])) sNx)
    (sIf (tst (e2 opEq (eV 5) (eCall g_moved_to [(eV 1), (eV 2)]))) (sEx (eCallO g_with_less 3 [(eCall g_with_exchange [(eV 4), (eV 2)]), (e1 opNegR (eV 6))])) sNx)))
    (sRet (eV 3))))

def g_unlike_at (ds : List D) : Option D := run m_unlike_at 7 3 ds

/-- exchange_at_of -/
def m_exchange_at_of : S :=
  (sSeq (sAsg (eCall g_barring_at [(e1 (opFld .parts) (eV 0))]) (gN 1))
    (sSeq (sIf (tst (e2 opEq (eV 1) (eLst []))) (sRet (eC .non)) sNx)
    (sSeq (sAsg (e2 opAdd (eC (.int 1)) (eCall (a1 opMin) [(eComp [9, 10] (iL (eV 1)) (gT [(gN 9), (gN 10)]) tYes (eCall (a1 opLen) [(eV 10)]))])) (gN 2))
    (sSeq (sAsg (eComp [6] (iL (eComp [8] (iL (e1 (opFld .parts) (eV 0))) (gN 8) tYes (eCall g_marked [(eV 8)]))) (gN 6) (tst (e2 opEq (eCall (a1 opLen) [(e2 opIx (eV 6) (eC (.int 0)))]) (eV 2))) (eV 6)) (gN 3))
    (sSeq (sFor (iRng (eV 2)) (gN 4) (sFor (iRng (e2 opSub (eV 2) (eC (.int 1)))) (gN 5) (sSeq (sAsg (eCall g_unlike_at [(eV 3), (eV 4), (eV 5)]) (gN 7))
    (sIf (tst (e2 opNeE (eV 7) eDic)) (sRet (eTup [(eCall (make .tab g_Table_init) [(e1 (opFld .columns) (eV 0)), (eCall g_rows_for [(e1 (opFld .columns) (eV 0)), (eV 2), (eV 7)])]), (eV 4), (eV 5)])) sNx))))
    (sRet (eC .non)))))))

def g_exchange_at_of (ds : List D) : Option D := run m_exchange_at_of 11 1 ds

/-- want_form -/
def m_want_form : S :=
  (sSeq (sIf (tNot (tst (e1 (opIsi (.cls .frm)) (eV 0)))) sNever sNx)
    (sRet (eV 0)))

def g_want_form (ds : List D) : Option D := run m_want_form 1 1 ds

/-- exchange_at -/
def m_exchange_at : S :=
  (sRet (eCall g_exchange_at_of [(eCall g_want_form [(eV 0)])]))

def g_exchange_at (ds : List D) : Option D := run m_exchange_at 1 1 ds

/-- table_of -/
def m_table_of : S :=
  (sRet (eCall (make .tab g_Table_init) [(eV 0), (eComp [2] (iL (eV 1)) (gN 2) tYes (eCall (a1 opList) [(eV 2)]))]))

def g_table_of (ds : List D) : Option D := run m_table_of 3 2 ds

/-- want_table -/
def m_want_table : S :=
  (sSeq (sIf (tNot (tst (e1 (opIsi (.cls .tab)) (eV 0)))) sNever sNx)
    (sRet (eV 0)))

def g_want_table (ds : List D) : Option D := run m_want_table 1 1 ds

/-- exchanged -/
def m_exchanged : S :=
  (sSeq (sAsg (eCall g_want_table [(eV 0)]) (gN 2))
    (sSeq (sIf (tOr (tNot (tst (eCall g_is_count [(eV 1)]))) (tst (e2 opGe (e2 opAdd (eV 1) (eC (.int 1))) (eCall (a1 opLen) [(e1 (opFld .rows) (eV 2))])))) sNever sNx)
    (sSeq (sNew 3 (eCall (a1 opList) [(e1 (opFld .rows) (eV 2))]))
    (sSeq (sAsg (eTup [(eIxO 3 (e2 opAdd (eV 1) (eC (.int 1)))), (eIxO 3 (eV 1))]) (gT [(gSub 3 (eV 1)), (gSub 3 (e2 opAdd (eV 1) (eC (.int 1))))]))
    (sRet (eCall g_table_of [(e1 (opFld .columns) (eV 2)), (eV 3)]))))))

def g_exchanged (ds : List D) : Option D := run m_exchanged 4 2 ds

/-- exchange_in -/
def m_exchange_in : S :=
  (sSeq (sIf (tOr (tNot (tst (e1 (opIsi .tuple) (eV 1)))) (tOr (tst (e2 opNe (eCall (a1 opLen) [(eV 1)]) (e2 opAdd (eV 2) (eC (.int 1))))) (tNot (tst (e1 (opIsi (.cls .tab)) (e2 opIx (eV 1) (eC (.int 0)))))))) (sRet (eC (.bl false))) sNx)
    (sSeq (sAsg (eCall (a1 opLen) [(e1 (opFld .rows) (e2 opIx (eV 1) (eC (.int 0))))]) (gN 3))
    (sSeq (sIf (tOr (tst (e2 opNe (e1 (opFld .columns) (e2 opIx (eV 1) (eC (.int 0)))) (eV 0))) (tNot (tst (eCall (a1 opAll) [(eComp [4] (iT (eCut (eV 1) (some (eC (.int 1))) none)) (gN 4) tYes (eAnd (eCall g_is_count [(eV 4)]) (e2 opLt (eV 4) (eV 3))))])))) (sRet (eC (.bl false))) sNx)
    (sRet (e2 opLt (e2 opAdd (e2 opIx (eV 1) (e1 opNeg (eC (.int 1)))) (eC (.int 1))) (eV 3))))))

def g_exchange_in (ds : List D) : Option D := run m_exchange_in 5 3 ds

/-- worth_at -/
def m_worth_at : S :=
  (sSeq (sAsg (eTup [(eC (.int 1)), (eC (.int 1))]) (gT [(gN 2), (gN 3)]))
    (sSeq (sFor (iZip (eV 0) (eV 1)) (gT [(gN 4), (gN 5)]) (sFor (iRng (eV 4)) (gN 6) (sPar 2 3 (e2 opMul (eV 2) (e1 (opFld .top) (eV 5))) (e2 opMul (eV 3) (e1 (opFld .bottom) (eV 5))))))
    (sRet (eCall mkRat [(eV 2), (eV 3)]))))

def g_worth_at (ds : List D) : Option D := run m_worth_at 7 2 ds

/-- worths_at -/
def m_worths_at : S :=
  (sRet (eComp [2] (iT (eV 1)) (gN 2) tYes (eCall g_worth_at [(eV 0), (eV 2)])))

def g_worths_at (ds : List D) : Option D := run m_worths_at 3 2 ds

/-- ahead_sums -/
def m_ahead_sums : S :=
  (sSeq (sAsg (eTup [(e2 opRep (eLst [(eC (.int 1))]) (e2 opAdd (eCall (a1 opLen) [(eV 0)]) (eC (.int 1)))), (eC (.int 1))]) (gT [(gN 3), (gN 4)]))
    (sSeq (sFor (iT (eV 1)) (gN 2) (sSeq (sAsg (eCall g_wholes [(eCall g_worths_at [(eV 2), (eV 0)])]) (gT [(gN 5), (gN 6)]))
    (sSeq (sParO 7 8 (eC (.int 0)) (eLst [(eC (.int 0))]))
    (sSeq (sFor (iZip (eV 3) (eV 6)) (gT [(gN 9), (gN 10)]) (sSeq (sAsg (e2 opAdd (eV 7) (e2 opMul (eV 9) (eV 10))) (gN 7))
    (sApp 8 (eV 7))))
    (sAsg (eTup [(eV 8), (e2 opMul (eV 4) (eV 5))]) (gT [(gN 3), (gN 4)]))))))
    (sRet (eComp [11] (iL (eV 3)) (gN 11) tYes (eCall mkRat [(eV 11), (eV 4)])))))

def g_ahead_sums (ds : List D) : Option D := run m_ahead_sums 12 2 ds

/-- behind_sums -/
def m_behind_sums : S :=
  (sRet (e1 opRev (eCall g_ahead_sums [(e1 opRev (eV 0)), (e1 opRev (eV 1))])))

def g_behind_sums (ds : List D) : Option D := run m_behind_sums 2 2 ds

/-- total_of -/
def m_total_of : S :=
  (sSeq (sAsg (eCall mkRat1 [(eC (.int 0))]) (gN 1))
    (sSeq (sFor (iL (eV 0)) (gN 2) (sAsg (e2 opAddR (eV 1) (eV 2)) (gN 1)))
    (sRet (eV 1))))

def g_total_of (ds : List D) : Option D := run m_total_of 3 1 ds

/-- worths_of_form -/
def m_worths_of_form : S :=
  (sSeq (sParOO 3 4 eDic eDic)
    (sSeq (sFor (iL (e1 (opFld .parts) (eV 0))) (gT [(gT [(gN 9), (gN 10), (gN 11)]), (gN 5)]) (sSeq (sIf (tNotInO (eV 9) 3) (sAsg (eCall g_ahead_sums [(eV 1), (eV 9)]) (gSub 3 (eV 9))) sNx)
    (sIf (tNotInO (eV 11) 4) (sAsg (eCall g_behind_sums [(eV 1), (eV 11)]) (gSub 4 (eV 11))) sNx)))
    (sSeq (sNew 2 (eLst []))
    (sSeq (sFor (iEnum (eV 1)) (gT [(gN 6), (gN 7)]) (sSeq (sNew 8 (eLst []))
    (sSeq (sFor (iL (e1 (opFld .parts) (eV 0))) (gT [(gT [(gN 9), (gN 10), (gN 11)]), (gN 5)]) (sSeq (sPar 12 13 (e2 opIx (e2 opIx (eV 3) (eV 9)) (eV 6)) (e2 opIx (e2 opIx (eV 4) (eV 11)) (e2 opAdd (eV 6) (eC (.int 1)))))
    (sIf (tAnd (tst (e2 opNe (e1 (opPrp .rat g_Ratio_sign) (eV 12)) (eC (.int 0)))) (tst (e2 opNe (e1 (opPrp .rat g_Ratio_sign) (eV 13)) (eC (.int 0))))) (sApp 8 (e2 opMulR (e2 opMulR (e2 opMulR (eV 5) (eV 12)) (eV 13)) (eCall g_worth_at [(eV 10), (eV 7)]))) sNx)))
    (sApp 2 (eCall g_total_of [(eV 8)])))))
    (sRet (eV 2))))))

def g_worths_of_form (ds : List D) : Option D := run m_worths_of_form 14 2 ds

/-- is_exchange_at -/
def m_is_exchange_at : S :=
  (sSeq (sAsg (eCall g_want_form [(eV 0)]) (gN 2))
    (sSeq (sIf (tNot (tst (eCall g_exchange_in [(e1 (opFld .columns) (eV 2)), (eV 1), (eC (.int 2))]))) (sRet (eC (.bl false))) sNx)
    (sSeq (sAsg (eV 1) (gT [(gN 3), (gN 4), (gN 5)]))
    (sSeq (sPar 6 7 (eCall g_worths_of_form [(eV 2), (e1 (opFld .rows) (eV 3))]) (eCall g_worths_of_form [(eV 2), (eCall g_with_exchange [(e1 (opFld .rows) (eV 3)), (eV 5)])]))
    (sRet (e2 opNeR (e2 opIx (eV 6) (eV 4)) (e2 opIx (eV 7) (eCall g_moved_to [(eV 4), (eV 5)]))))))))

def g_is_exchange_at (ds : List D) : Option D := run m_is_exchange_at 8 2 ds

/-- is_free_at -/
def m_is_free_at : S :=
  (sRet (e2 opEq (eCall g_barring_at [(e1 (opFld .parts) (eCall g_want_form [(eV 0)]))]) (eLst [])))

def g_is_free_at (ds : List D) : Option D := run m_is_free_at 1 1 ds

/-- _law_right -/
def m__law_right : S :=
  (sSeq (sAsg (e2 opIx (eLst [(eC (.int 0)), (eC (.int 1)), (eC (.int 1)), (eC (.int 2))]) (eCallO g__law_draw 0 [(eC (.int 4))])) (gN 1))
    (sSeq (sAsg (eCallO g__law_form 0 [(eV 1), (eC (.int 2))]) (gN 2))
    (sSeq (sPar 7 8 (eCall (make .frm g_Form_init) [(eV 1), (eComp [12] (iD (eV 2)) (gN 12) tYes (eTup [(eV 12), (e2 opIx (eV 2) (eV 12))]))]) (eCall g__law_held [(eV 2)]))
    (sSeq (sAsg (eCall g_exchange_at [(eV 7)]) (gN 3))
    (sSeq (sIf (tOr (tst (e2 opNe (eCall (a1 opRepr) [(eCall g_is_free_at [(eV 7)])]) (eCall (a1 opRepr) [(e2 opEq (eV 8) (eLst []))]))) (tst (e2 opNe (e1 opIsN (eV 3)) (e2 opEq (eV 8) (eLst []))))) (sRet (eC (.bl false))) sNx)
    (sSeq (sIf (tst (e2 opNe (eV 8) (eLst []))) (sSeq (sIf (tNot (tst (eCall g__law_is_exchange [(eV 2), (eV 1), (e2 opIx (eV 8) (eC (.int 0))), (eV 3)]))) (sRet (eC (.bl false))) sNx)
    (sSeq (sIf (tst (e2 opNotB (eCall (swp g_is_exchange_at) [(eV 3), (eV 7)]) (eC (.bl true)))) (sRet (eC (.bl false))) sNx)
    (sSeq (sAsg (eTup [(eCall g_exchanged [(e2 opIx (eV 3) (eC (.int 0))), (e2 opIx (eV 3) (eC (.int 2)))]), (eCall g__law_moved [(e2 opIx (eV 3) (eC (.int 1))), (e2 opIx (eV 3) (eC (.int 2)))]), (e2 opIx (eV 3) (eC (.int 2)))]) (gN 9))
    (sRet (e2 opIsB (eCall g_is_exchange_at [(eV 7), (eV 9)]) (eC (.bl true))))))) sNx)
    (sSeq (sAsg (eCallO g__law_rows 0 [(eV 1), (e2 opAdd (eC (.int 1)) (eCallO g__law_draw 0 [(eC (.int 3))]))]) (gN 4))
    (sSeq (sAsg (eComp [11] (iRng (eCall (a1 opLen) [(eV 4)])) (gN 11) tYes (eCall g__law_result [(eV 2), (eV 4), (eV 11)])) (gN 5))
    (sSeq (sFor (iL (eCall (g__law_arranged 6) [(eLstRng (eCall (a1 opLen) [(eV 4)]))])) (gN 6) (sSeq (sAsg (eComp [11] (iT (eV 6)) (gN 11) tYes (e2 opIx (eV 4) (eV 11))) (gN 10))
    (sIf (tst (e2 opNe (eComp [13] (iRng (eCall (a1 opLen) [(eV 4)])) (gN 13) tYes (eCall g__law_result [(eV 2), (eV 10), (eV 13)])) (eComp [11] (iT (eV 6)) (gN 11) tYes (e2 opIx (eV 5) (eV 11))))) (sRet (eC (.bl false))) sNx)))
    (sRet (e2 opIsB (eCall g_is_free_at [(eV 7)]) (eC (.bl true)))))))))))))

def g__law_right (d : D) (ds : List D) : Option (D × D) := runO m__law_right 14 1 d ds

/-- law -/
def g_law (ds : List D) : Option D := match ds with
  | [s] => (g__law_pot [s, .int 0]).bind fun p => (g__law_right p []).map (·.1)
  | _ => none

end Pd
end
section
set_option Elab.async false
set_option linter.all false
set_option maxRecDepth 100000
set_option maxHeartbeats 4000000
/-! PdBase: data in the abstract heap, environments and states, the pure readings. -/
namespace Pd
open PySem PySem.Spec PyProof.Rows L2
abbrev St := L2.St
abbrev Inv := L2.Inv

/-- the program's side -/
structure Wd where
  P : Program
  w : World
  K : PySem.W.Frag
  mg : Str → Option Value
  base : Heap
  cA : Cl → Addr

mutual
def toKey : D → NestedKey
  | .int i => .num i
  | .tup ds => .tup (toKeys ds)
  | _ => .none
def toKeys : List D → List NestedKey
  | [] => []
  | d :: ds => toKey d :: toKeys ds
end
def fdS : Fd → Str
  | .top => "own_top"
  | .bottom => "own_bottom"
  | .columns => "own_columns"
  | .rows => "own_rows"
  | .parts => "own_parts"
def flds : Cl → List Fd
  | .rat => [.top, .bottom]
  | .tab => [.columns, .rows]
  | .frm => [.columns, .parts]
def rbS (b : Bool) : Str := if b then "True" else "False"
/-- a dict's object: its entries -/
def DObj (Z : Wd) (o : Obj) (xs : List (NestedKey × Addr × Value)) : Prop :=
  o.ExactDict ∧ (∃ es ep, o.data = .dict es ep ∧ es.toList = xs.map (entryOfKey (nestedKind Z.P Z.w))) ∧ (xs.map (·.1)).Nodup
/-- a dict at a whose object is just o -/
def pinO (a : Addr) (o : Obj) : HO := .ext fun h => h.get? a = some o

mutual
/-- the value v is the datum d, by the heap F -/
inductive Rep (Z : Wd) (F : Hp) : V → D → Prop
  | non : Rep Z F .non .non
  | bl (b : Bool) : Rep Z F (.bl b) (.bl b)
  | int (i : Int) : Rep Z F (.int i) (.int i)
  | rb (b : Bool) : Rep Z F (.str (rbS b)) (.rb b)
  | ref {a : Addr} {o : HO} {d : D} : F a = some o → RepO Z F a o d → Rep Z F (.ref a) d
inductive RepO (Z : Wd) (F : Hp) : Addr → HO → D → Prop
  | tup {a : Addr} {xs : List V} {ds : List D} : RepL Z F xs ds → RepO Z F a (.tup xs) (.tup ds)
  | lst {a : Addr} {xs : List V} {ds : List D} : RepL Z F xs ds → RepO Z F a (.lst xs) (.lst ds)
  | dic {a : Addr} {o : Obj} {xs : List (NestedKey × Addr × Value)} {kvs : List (D × D)} : DObj Z o xs → (a == sysModules) = false →
      RepD Z F xs kvs → kvs.length ≤ 1000000 → RepO Z F a (pinO a o) (.dic kvs)
  | ins {a dx : Addr} {c : Cl} {fs' : List (Str × V)} {fs : List D} : fs'.map (·.1) = ((flds c).map fdS).take fs.length → fs.length ≤ 2 → RepL Z F (fs'.map (·.2)) fs →
      RepO Z F a (.ins (Z.cA c) dx fs') (.ins c fs)
inductive RepL (Z : Wd) (F : Hp) : List V → List D → Prop
  | nil : RepL Z F [] []
  | cons {v : V} {d : D} {vs : List V} {ds : List D} : Rep Z F v d → RepL Z F vs ds → RepL Z F (v :: vs) (d :: ds)
inductive RepD (Z : Wd) (F : Hp) : List (NestedKey × Addr × Value) → List (D × D) → Prop
  | nil : RepD Z F [] []
  | cons {k : NestedKey} {a : Addr} {u : Value} {w : V} {kd vd : D} {xs : List (NestedKey × Addr × Value)} {kvs : List (D × D)} : k = toKey kd → kOk kd = true → depth kd ≤ 8 → Rep Z F (.ref a) kd → RelV w u → Rep Z F w vd → RepD Z F xs kvs → RepD Z F ((k, a, u) :: xs) ((kd, vd) :: kvs)
end

mutual
theorem Rep.mono {Z : Wd} {F F' : Hp} (h : Same F F') : ∀ {v : V} {d : D}, Rep Z F v d → Rep Z F' v d
  | _, _, .non => .non
  | _, _, .bl b => .bl b
  | _, _, .int i => .int i
  | _, _, .rb b => .rb b
  | _, _, .ref e r => .ref (h _ _ e) (RepO.mono h r)
theorem RepO.mono {Z : Wd} {F F' : Hp} (h : Same F F') : ∀ {a : Addr} {o : HO} {d : D}, RepO Z F a o d → RepO Z F' a o d
  | _, _, _, .tup r => .tup (RepL.mono h r)
  | _, _, _, .lst r => .lst (RepL.mono h r)
  | _, _, _, .dic a b r l => .dic a b (RepD.mono h r) l
  | _, _, _, .ins a b r => .ins a b (RepL.mono h r)
theorem RepL.mono {Z : Wd} {F F' : Hp} (h : Same F F') : ∀ {vs : List V} {ds : List D}, RepL Z F vs ds → RepL Z F' vs ds
  | _, _, .nil => .nil
  | _, _, .cons r rs => .cons (Rep.mono h r) (RepL.mono h rs)
theorem RepD.mono {Z : Wd} {F F' : Hp} (h : Same F F') : ∀ {xs : List (NestedKey × Addr × Value)} {kvs : List (D × D)}, RepD Z F xs kvs → RepD Z F' xs kvs
  | _, _, .nil => .nil
  | _, _, .cons a b c r v r' rs => .cons a b c (Rep.mono h r) v (Rep.mono h r') (RepD.mono h rs)
end

section
variable {Z : Wd} {F : Hp}
theorem RepL.length : ∀ {vs : List V} {ds : List D}, RepL Z F vs ds → vs.length = ds.length
  | _, _, .nil => rfl
  | _, _, .cons _ r => congrArg (· + 1) (RepL.length r)
theorem RepL.append : ∀ {vs : List V} {ds : List D} {ws : List V} {es : List D}, RepL Z F vs ds → RepL Z F ws es → RepL Z F (vs ++ ws) (ds ++ es)
  | _, _, _, _, .nil, s => s
  | _, _, _, _, .cons r t, s => .cons r (RepL.append t s)
theorem RepL.get : ∀ {vs : List V} {ds : List D} {i : Nat} {d : D}, RepL Z F vs ds → ds[i]? = some d → ∃ v, vs[i]? = some v ∧ Rep Z F v d
  | _, _, _, _, .nil, e => by simp at e
  | _, _, 0, _, .cons r _, e => by simp at e; subst e; exact ⟨_, rfl, r⟩
  | _, _, i + 1, d, .cons _ t, e => by
    obtain ⟨v, h1, h2⟩ := RepL.get (i := i) (d := d) t (by simpa using e)
    exact ⟨v, by simpa using h1, h2⟩
theorem RepL.get' : ∀ {vs : List V} {ds : List D} {i : Nat} {v : V}, RepL Z F vs ds → vs[i]? = some v → ∃ d, ds[i]? = some d ∧ Rep Z F v d
  | _, _, _, _, .nil, e => by simp at e
  | _, _, 0, _, .cons r _, e => by simp at e; subst e; exact ⟨_, rfl, r⟩
  | _, _, i + 1, v, .cons _ t, e => by
    obtain ⟨d, h1, h2⟩ := RepL.get' (i := i) (v := v) t (by simpa using e)
    exact ⟨d, by simpa using h1, h2⟩
theorem RepL.take : ∀ {vs : List V} {ds : List D} (n : Nat), RepL Z F vs ds → RepL Z F (vs.take n) (ds.take n)
  | _, _, 0, _ => .nil
  | _, _, _ + 1, .nil => .nil
  | _, _, n + 1, .cons r t => .cons r (RepL.take n t)
theorem RepL.drop : ∀ {vs : List V} {ds : List D} (n : Nat), RepL Z F vs ds → RepL Z F (vs.drop n) (ds.drop n)
  | _, _, 0, r => r
  | _, _, _ + 1, .nil => .nil
  | _, _, n + 1, .cons _ t => RepL.drop n t
theorem RepL.set {v : V} {d : D} (r : Rep Z F v d) : ∀ {vs : List V} {ds : List D} (i : Nat), RepL Z F vs ds → RepL Z F (vs.set i v) (ds.set i d)
  | _, _, _, .nil => .nil
  | _, _, 0, .cons _ t => .cons r t
  | _, _, i + 1, .cons q t => .cons q (RepL.set r i t)
theorem RepL.reverse : ∀ {vs : List V} {ds : List D}, RepL Z F vs ds → RepL Z F vs.reverse ds.reverse
  | _, _, .nil => .nil
  | _, _, .cons r t => by
    rw [List.reverse_cons, List.reverse_cons]
    exact RepL.append (RepL.reverse t) (.cons r .nil)
theorem RepL.replicate {vs : List V} {ds : List D} (r : RepL Z F vs ds) : ∀ n : Nat, RepL Z F (List.replicate n vs).flatten (List.replicate n ds).flatten
  | 0 => .nil
  | n + 1 => by
    rw [List.replicate_succ, List.replicate_succ, List.flatten_cons, List.flatten_cons]
    exact r.append (RepL.replicate r n)
theorem RepL.ints {is : List Int} : RepL Z F (is.map V.int) (is.map D.int) := by
  induction is with
  | nil => exact .nil
  | cons i is ih => exact .cons (.int i) ih
theorem Rep.int_inv {v : V} {i : Int} (r : Rep Z F v (.int i)) : v = .int i := by
  cases r with
  | int => rfl
  | ref _ q => cases q
theorem Rep.bl_inv {v : V} {b : Bool} (r : Rep Z F v (.bl b)) : v = .bl b := by
  cases r with
  | bl => rfl
  | ref _ q => cases q
theorem Rep.rb_inv {v : V} {b : Bool} (r : Rep Z F v (.rb b)) : v = .str (rbS b) := by
  cases r with
  | rb => rfl
  | ref _ q => cases q
theorem Rep.non_inv {v : V} (r : Rep Z F v .non) : v = .non := by
  cases r with
  | non => rfl
  | ref _ q => cases q
theorem Rep.tup_inv {v : V} {ds : List D} (r : Rep Z F v (.tup ds)) : ∃ a xs, v = .ref a ∧ F a = some (.tup xs) ∧ RepL Z F xs ds := by
  cases r with
  | ref e q =>
    cases q with
    | tup r => exact ⟨_, _, rfl, e, r⟩
theorem Rep.lst_inv {v : V} {ds : List D} (r : Rep Z F v (.lst ds)) : ∃ a xs, v = .ref a ∧ F a = some (.lst xs) ∧ RepL Z F xs ds := by
  cases r with
  | ref e q =>
    cases q with
    | lst r => exact ⟨_, _, rfl, e, r⟩
theorem Rep.ins_inv {v : V} {c : Cl} {fs : List D} (r : Rep Z F v (.ins c fs)) : ∃ a dx fs', v = .ref a ∧ F a = some (.ins (Z.cA c) dx fs') ∧ fs'.map (·.1) = ((flds c).map fdS).take fs.length ∧ fs.length ≤ 2 ∧ RepL Z F (fs'.map (·.2)) fs := by
  cases r with
  | ref e q =>
    cases q with
    | ins h1 h2 r => exact ⟨_, _, _, rfl, e, h1, h2, r⟩
theorem RepL.mapM_int : ∀ {vs : List V} {ds : List D} {is : List Int}, RepL Z F vs ds → ds.mapM int? = some is → vs = is.map V.int
  | _, _, _, .nil, e => by cases e; rfl
  | _, d :: ds, is, .cons r t, e => by
    rw [List.mapM_cons] at e
    cases d with
    | int i =>
      cases q : ds.mapM int? with
      | none => rw [q] at e; cases e
      | some js =>
        rw [q] at e
        cases e
        rw [r.int_inv, RepL.mapM_int t q]
        rfl
    | _ => cases e
theorem RepL.mapM_bl : ∀ {vs : List V} {ds : List D} {bs : List Bool}, RepL Z F vs ds → ds.mapM bool? = some bs → vs = bs.map V.bl
  | _, _, _, .nil, e => by cases e; rfl
  | _, d :: ds, is, .cons r t, e => by
    rw [List.mapM_cons] at e
    cases d with
    | bl i =>
      cases q : ds.mapM bool? with
      | none => rw [q] at e; cases e
      | some js =>
        rw [q] at e
        cases e
        rw [r.bl_inv, RepL.mapM_bl t q]
        rfl
    | _ => cases e
end

/-! ### what is left alone -/
def avoid (H : Hp) (N : List Addr) : Hp := fun a => if a ∈ N then none else H a
section
variable {H H' : Hp} {N N' : List Addr} {a : Addr} {o : HO}
theorem avoid_some (h : avoid H N a = some o) : a ∉ N ∧ H a = some o := by
  unfold avoid at h
  by_cases q : a ∈ N
  · rw [if_pos q] at h; cases h
  · rw [if_neg q] at h; exact ⟨q, h⟩
theorem avoid_mk (h : a ∉ N) (e : H a = some o) : avoid H N a = some o := by
  unfold avoid; rw [if_neg h]; exact e
theorem avoid_same (h : Same H H') : Same (avoid H N) (avoid H' N) := fun _ _ e => let ⟨n, q⟩ := avoid_some e; avoid_mk n (h _ _ q)
theorem avoid_sub (h : ∀ b ∈ N', b ∈ N) : Same (avoid H N) (avoid H N') := fun _ _ e => let ⟨n, q⟩ := avoid_some e; avoid_mk (fun z => n (h _ z)) q
theorem avoid_upd (h : a ∈ N) : avoid (upd H a o) N = avoid H N := by
  funext b
  unfold avoid
  by_cases q : b ∈ N
  · rw [if_pos q, if_pos q]
  · rw [if_neg q, if_neg q, upd_ne fun e => q (by rw [e]; exact h)]
theorem avoid_le : Same (avoid H N) H := fun _ _ e => (avoid_some e).2
theorem same_upd (h : H a = none) : Same H (upd H a o) := fun b u e => by rw [upd_ne (ne_of_none e h)]; exact e
end

/-! ### a state and its environment -/
/-- the entry's heap, what of it may be turned, what is to be left alone -/
structure Cn where
  H_0 : Hp
  M : List Addr
  N : List Addr
  z : Option Addr
abbrev Fz (C : Cn) (L : List Addr) (H : Hp) : Hp := avoid H (L ++ C.N)
structure SOk (Z : Wd) (C : Cn) (L : List Addr) (σ : St) (H : Hp) (ρ : Env) : Prop where
  kept : ∀ a o, a ∉ C.M → C.H_0 a = some o → H a = some o
  new : ∀ l ∈ L, l ∈ C.M ∨ C.H_0 l = none
  apart : ∀ l ∈ L, l ∉ C.N
  trk : ∀ l ∈ L ++ C.N, H l ≠ none
  len : σ.length = ρ.length
  imm : ∀ (k : Nat) (d : D), ρ[k]? = some (.i d) → ∃ v, σ[k]? = some (some v) ∧ Rep Z (Fz C L H) v d
  own : ∀ (k : Nat) (d : D), ρ[k]? = some (.o d) → ∃ (l : Addr) (o : HO), σ[k]? = some (some (V.ref l)) ∧ l ∈ L ∧ H l = some o ∧ RepO Z (Fz C L H) l o d
  inj : ∀ (j k : Nat) (d e : D), ρ[j]? = some (.o d) → ρ[k]? = some (.o e) → σ[j]? = σ[k]? → j = k
  p0 : ∀ (a : Addr) (d : D), C.z = some a → ρ[0]? = some (.o d) → σ[0]? = some (some (V.ref a))

section
variable {Z : Wd} {C : Cn} {L : List Addr} {σ : St} {H H' : Hp} {ρ : Env}
/-- the heap has grown -/
theorem SOk.ext (s : SOk Z C L σ H ρ) (e : Same H H') : SOk Z C L σ H' ρ where
  kept := fun a o m q => e _ _ (s.kept a o m q)
  new := s.new
  apart := s.apart
  trk := fun l hl z => by
    cases q : H l with
    | none => exact s.trk l hl q
    | some o => rw [e l o q] at z; cases z
  len := s.len
  imm := fun k d q => let ⟨v, h1, r⟩ := s.imm k d q; ⟨v, h1, r.mono (avoid_same e)⟩
  own := fun k d q => let ⟨l, o, h1, h2, h3, r⟩ := s.own k d q; ⟨l, o, h1, h2, e _ _ h3, r.mono (avoid_same e)⟩
  inj := s.inj
  p0 := s.p0
theorem Fz_ext (e : Same H H') : Same (Fz C L H) (Fz C L H') := avoid_same e
/-- an owned thing becomes shared -/
theorem SOk.freeze (s : SOk Z C L σ H ρ) {k : Nat} {d : D} (q : ρ[k]? = some (.o d)) :
    ∃ v L', σ[k]? = some (some v) ∧ Same (Fz C L H) (Fz C L' H) ∧ SOk Z C L' σ H (ρ.set k (.i d)) ∧ Rep Z (Fz C L' H) v d := by
  obtain ⟨l, o, h1, h2, h3, r⟩ := s.own k d q
  have hk : k < ρ.length := (List.getElem?_eq_some_iff.mp q).1
  have hsub : ∀ b ∈ L.filter (fun x => decide (x ≠ l)) ++ C.N, b ∈ L ++ C.N := fun b hb => by
    rcases List.mem_append.mp hb with z | z
    · exact List.mem_append_left _ (List.mem_filter.mp z).1
    · exact List.mem_append_right _ z
  have sm : Same (Fz C L H) (Fz C (L.filter fun x => decide (x ≠ l)) H) := avoid_sub hsub
  have hl : l ∉ L.filter (fun x => decide (x ≠ l)) ++ C.N := fun z => by
    rcases List.mem_append.mp z with z | z
    · have := (List.mem_filter.mp z).2
      simp at this
    · exact s.apart l h2 z
  have rr : Rep Z (Fz C (L.filter fun x => decide (x ≠ l)) H) (.ref l) d := .ref (avoid_mk hl h3) (r.mono sm)
  refine ⟨.ref l, _, h1, sm, ⟨s.kept, fun x hx => s.new x (List.mem_filter.mp hx).1, fun x hx => s.apart x (List.mem_filter.mp hx).1, fun x hx => s.trk x (hsub x hx), by rw [List.length_set]; exact s.len, fun j e hj => ?_, fun j e hj => ?_, fun i j e f hi hj => ?_, fun a e ha hj => ?_⟩, rr⟩
  · by_cases hjk : k = j
    · subst hjk
      rw [List.getElem?_set_self hk] at hj
      cases hj
      exact ⟨_, h1, rr⟩
    · rw [List.getElem?_set_ne hjk] at hj
      obtain ⟨v, h4, r4⟩ := s.imm j e hj
      exact ⟨v, h4, r4.mono sm⟩
  · by_cases hjk : k = j
    · subst hjk
      rw [List.getElem?_set_self hk] at hj
      cases hj
    · rw [List.getElem?_set_ne hjk] at hj
      obtain ⟨m, o', h4, h5, h6, r6⟩ := s.own j e hj
      refine ⟨m, o', h4, List.mem_filter.mpr ⟨h5, ?_⟩, h6, r6.mono sm⟩
      refine decide_eq_true fun z => hjk (s.inj k j d e q hj ?_)
      rw [h1, h4, z]
  · have key : ∀ {x : Nat} {g : D}, (ρ.set k (.i d))[x]? = some (.o g) → ρ[x]? = some (.o g) := fun {x g} hx => by
      by_cases hxk : k = x
      · subst hxk
        rw [List.getElem?_set_self hk] at hx
        cases hx
      · rw [List.getElem?_set_ne hxk] at hx
        exact hx
    exact s.inj i j e f (key hi) (key hj)
  · by_cases hxk : k = 0
    · subst hxk
      rw [List.getElem?_set_self hk] at hj
      cases hj
    · rw [List.getElem?_set_ne hxk] at hj
      exact s.p0 a e ha hj
/-- shared data into a slot -/
theorem SOk.seti (s : SOk Z C L σ H ρ) {k : Nat} {v : V} {d : D} (hk : k < ρ.length) (r : Rep Z (Fz C L H) v d) : SOk Z C L (σ.set k (some v)) H (ρ.set k (.i d)) := by
  have hk' : k < σ.length := by rw [s.len]; exact hk
  have key : ∀ {x : Nat} {g : D}, (ρ.set k (.i d))[x]? = some (.o g) → k ≠ x ∧ ρ[x]? = some (.o g) := fun {x g} hx => by
    by_cases hxk : k = x
    · subst hxk
      rw [List.getElem?_set_self hk] at hx
      cases hx
    · rw [List.getElem?_set_ne hxk] at hx
      exact ⟨hxk, hx⟩
  refine ⟨s.kept, s.new, s.apart, s.trk, by rw [List.length_set, List.length_set]; exact s.len, fun j e hj => ?_, fun j e hj => ?_, fun i j e f hi hj hh => ?_, fun a e ha hj => ?_⟩
  · by_cases hjk : k = j
    · subst hjk
      rw [List.getElem?_set_self hk] at hj
      cases hj
      exact ⟨v, List.getElem?_set_self hk', r⟩
    · rw [List.getElem?_set_ne hjk] at hj ⊢
      exact s.imm j e hj
  · obtain ⟨hjk, hj⟩ := key hj
    rw [List.getElem?_set_ne hjk]
    exact s.own j e hj
  · obtain ⟨h1, hi⟩ := key hi
    obtain ⟨h2, hj⟩ := key hj
    rw [List.getElem?_set_ne h1, List.getElem?_set_ne h2] at hh
    exact s.inj i j e f hi hj hh
  · obtain ⟨h1, hj⟩ := key hj
    rw [List.getElem?_set_ne h1]
    exact s.p0 a e ha hj
/-- a new owned thing into a slot -/
theorem SOk.seto (s : SOk Z C L σ H ρ) {k : Nat} {p : Addr} {o : HO} {d : D} (hk : k < ρ.length) (hk0 : k ≠ 0) (hL : p ∈ L) (na : ∀ (j : Nat) (e : D), ρ[j]? = some (.o e) → σ[j]? ≠ some (some (V.ref p))) (e : H p = some o) (r : RepO Z (Fz C L H) p o d) :
    SOk Z C L (σ.set k (some (V.ref p))) H (ρ.set k (.o d)) := by
  have hk' : k < σ.length := by rw [s.len]; exact hk
  refine ⟨s.kept, s.new, s.apart, s.trk, by rw [List.length_set, List.length_set]; exact s.len, fun j e hj => ?_, fun j f hj => ?_, fun i j f g hi hj hh => ?_, fun a e ha hj => by rw [List.getElem?_set_ne hk0] at hj ⊢; exact s.p0 a e ha hj⟩
  · by_cases hjk : k = j
    · subst hjk
      rw [List.getElem?_set_self hk] at hj
      cases hj
    · rw [List.getElem?_set_ne hjk] at hj ⊢
      exact s.imm j e hj
  · by_cases hjk : k = j
    · subst hjk
      rw [List.getElem?_set_self hk] at hj
      cases hj
      exact ⟨p, o, List.getElem?_set_self hk', hL, e, r⟩
    · rw [List.getElem?_set_ne hjk] at hj ⊢
      exact s.own j f hj
  · by_cases hik : k = i
    · by_cases hjk : k = j
      · exact hik.symm.trans hjk
      · subst hik
        rw [List.getElem?_set_ne hjk] at hj
        rw [List.getElem?_set_self hk', List.getElem?_set_ne hjk] at hh
        exact absurd hh.symm (na j g hj)
    · by_cases hjk : k = j
      · subst hjk
        rw [List.getElem?_set_ne hik] at hi
        rw [List.getElem?_set_self hk', List.getElem?_set_ne hik] at hh
        exact absurd hh (na i f hi)
      · rw [List.getElem?_set_ne hik] at hi hh
        rw [List.getElem?_set_ne hjk] at hj hh
        exact s.inj i j f g hi hj hh
theorem SOk.fresh (s : SOk Z C L σ H ρ) {p : Addr} (hp : H p = none) : p ∉ L ++ C.N := fun z => s.trk p z hp
theorem Fz_new {p : Addr} {o : HO} (hp : H p = none) : Same (Fz C L H) (Fz C (p :: L) (upd H p o)) := fun b u z => by
  obtain ⟨n, z⟩ := avoid_some z
  refine avoid_mk (fun y => ?_) (same_upd hp _ _ z)
  rcases List.mem_cons.mp y with w | w
  · rw [w, hp] at z; cases z
  · exact n w
theorem SOk.newo (s : SOk Z C L σ H ρ) {p : Addr} (o : HO) (hp : H p = none) : SOk Z C (p :: L) σ (upd H p o) ρ ∧ ∀ (j : Nat) (e : D), ρ[j]? = some (.o e) → σ[j]? ≠ some (some (V.ref p)) := by
  have hN := s.fresh hp
  refine ⟨⟨(s.ext (same_upd hp)).kept, fun l hl => ?_, fun l hl => ?_, fun l hl => ?_, s.len, fun j e hj => ?_, fun j f hj => ?_, s.inj, s.p0⟩, fun j e hj z => ?_⟩
  · rcases List.mem_cons.mp hl with rfl | hl
    · by_cases m : l ∈ C.M
      · exact .inl m
      · refine .inr ?_
        cases q : C.H_0 l with
        | none => rfl
        | some u => have := s.kept l u m q; rw [hp] at this; cases this
    · exact s.new l hl
  · rcases List.mem_cons.mp hl with rfl | hl
    · exact fun z => hN (List.mem_append_right _ z)
    · exact s.apart l hl
  · rcases List.mem_cons.mp hl with rfl | hl
    · rw [upd_same]; exact fun z => nomatch z
    · exact (s.ext (same_upd hp)).trk l hl
  · obtain ⟨v, h1, r⟩ := s.imm j e hj
    exact ⟨v, h1, r.mono (Fz_new hp)⟩
  · obtain ⟨l, u, h1, h2, h3, h4⟩ := s.own j f hj
    exact ⟨l, u, h1, List.mem_cons_of_mem _ h2, same_upd hp _ _ h3, h4.mono (Fz_new hp)⟩
  · obtain ⟨l, u, h1, h2, h3, h4⟩ := s.own j e hj
    rw [h1] at z
    cases z
    rw [hp] at h3
    cases h3
/-- an owned thing is turned -/
theorem SOk.turn (s : SOk Z C L σ H ρ) {k : Nat} {l : Addr} {d d' : D} {o' : HO} (q : ρ[k]? = some (.o d)) (hl : σ[k]? = some (some (V.ref l))) (hL : l ∈ L) (hk' : ∀ a u, a ≠ l → H a = some u → H' a = some u) (e : H' l = some o') (r : RepO Z (Fz C L H') l o' d') :
    SOk Z C L σ H' (ρ.set k (.o d')) ∧ Same (Fz C L H) (Fz C L H') := by
  have hk : k < ρ.length := (List.getElem?_eq_some_iff.mp q).1
  have sm : Same (Fz C L H) (Fz C L H') := fun a u z => by
    obtain ⟨n, z⟩ := avoid_some z
    exact avoid_mk n (hk' a u (fun w => n (w ▸ List.mem_append_left _ hL)) z)
  refine ⟨⟨fun a u m z => ?_, s.new, s.apart, fun a ha z => ?_, by rw [List.length_set]; exact s.len, fun j f hj => ?_, fun j f hj => ?_, fun i j f g hi hj => ?_, fun a e ha hj => ?_⟩, sm⟩
  · refine hk' a u (fun w => ?_) (s.kept a u m z)
    subst w
    rcases s.new a hL with y | y
    · exact m y
    · rw [y] at z; cases z
  · by_cases w : a = l
    · subst w; rw [e] at z; cases z
    · cases y : H a with
      | none => exact s.trk a ha y
      | some u => rw [hk' a u w y] at z; cases z
  · by_cases hjk : k = j
    · subst hjk
      rw [List.getElem?_set_self hk] at hj
      cases hj
    · rw [List.getElem?_set_ne hjk] at hj
      obtain ⟨v, h1, h2⟩ := s.imm j f hj
      exact ⟨v, h1, h2.mono sm⟩
  · by_cases hjk : k = j
    · subst hjk
      rw [List.getElem?_set_self hk] at hj
      cases hj
      exact ⟨l, o', hl, hL, e, r⟩
    · rw [List.getElem?_set_ne hjk] at hj
      obtain ⟨m, u, h1, h2, h3, h4⟩ := s.own j f hj
      refine ⟨m, u, h1, h2, hk' m u (fun w => hjk (s.inj k j d f q hj ?_)) h3, h4.mono sm⟩
      rw [hl, h1, w]
  · have key : ∀ {x : Nat} {g : D}, (ρ.set k (.o d'))[x]? = some (.o g) → ∃ g', ρ[x]? = some (.o g') := fun {x g} hx => by
      by_cases hxk : k = x
      · subst hxk; exact ⟨d, q⟩
      · rw [List.getElem?_set_ne hxk] at hx; exact ⟨g, hx⟩
    obtain ⟨f', hi⟩ := key hi
    obtain ⟨g', hj⟩ := key hj
    exact s.inj i j f' g' hi hj
  · by_cases hxk : k = 0
    · subst hxk; exact s.p0 a d ha q
    · rw [List.getElem?_set_ne hxk] at hj; exact s.p0 a e ha hj
end
end Pd
end
section
set_option Elab.async false
set_option linter.all false
set_option maxRecDepth 100000
set_option maxHeartbeats 4000000
/-! PdTx: the row's defs by their places, what is known of them behind the top, how a def's promise is made. -/
namespace Pd
open PySem PySem.Spec PyProof.Rows L2

/-! ### the text -/
def st (i : Nat) : Stmt := PySem.Challenge.pw_aheadsums_k62_whole_forms_free_at_their.main.body.getD i (.Pass ⟨0, 0, 0, 0⟩)
def clsBody : Stmt → List Stmt
  | .ClassDef _ _ _ b _ _ _ _ _ _ _ => b
  | _ => []
def mth (i j : Nat) : Stmt := (clsBody (st i)).getD j (.Pass ⟨0, 0, 0, 0⟩)

/-! ### where a function stands -/
inductive Pt | g (x : Str) | m (C m : Str) | p (C m : Str)
def pAd (K : PySem.W.Frag) : Pt → Addr
  | .g x => He.ga K x
  | .m C m => He.ma K (He.ga K C) m
  | .p C m => match PySem.W.recIn K (He.ma K (He.ga K C) m) "property" with
    | some (.ref g :: _) => g
    | _ => 0
structure DefP where
  pt : Pt
  name : Str
  qual : Str
  s : Stmt
  dfl : List V := []
abbrev DefP.fnd (d : DefP) (K : PySem.W.Frag) (fd : FuncData) : Prop := FunD K d.name d.qual (defArgs d.s) (defBody d.s) (defScope d.s) d.dfl [] (pAd K d.pt) fd

def clN : Cl → Str
  | .rat => "Ratio"
  | .tab => "Table"
  | .frm => "Form"
end Pd
end
section
set_option Elab.async false
set_option linter.all false
set_option maxRecDepth 100000
set_option maxHeartbeats 4000000
/-! PdFacts: printed by gen2.py. -/
namespace Pd
open PySem PySem.Spec PyProof.Rows L2

def D_is_list : DefP := ⟨.g "is_list", "is_list", "is_list", (st 15), []⟩
def D_is_integer : DefP := ⟨.g "is_integer", "is_integer", "is_integer", (st 13), []⟩
def D_is_number : DefP := ⟨.g "is_number", "is_number", "is_number", (st 22), []⟩
def D_is_count : DefP := ⟨.g "is_count", "is_count", "is_count", (st 14), []⟩
def D_is_letter_of : DefP := ⟨.g "is_letter_of", "is_letter_of", "is_letter_of", (st 40), []⟩
def D_is_word_of : DefP := ⟨.g "is_word_of", "is_word_of", "is_word_of", (st 41), []⟩
def D_term_length : DefP := ⟨.g "term_length", "term_length", "term_length", (st 55), []⟩
def D_is_term : DefP := ⟨.g "is_term", "is_term", "is_term", (st 52), []⟩
def D_is_term_part : DefP := ⟨.g "is_term_part", "is_term_part", "is_term_part", (st 53), []⟩
def D_put_more : DefP := ⟨.g "put_more", "put_more", "put_more", (st 48), []⟩
def D_divisor_of : DefP := ⟨.g "divisor_of", "divisor_of", "divisor_of", (st 19), []⟩
def D_Ratio_init : DefP := ⟨.m "Ratio" "__init__", "__init__", "Ratio.__init__", (mth 20 0), [.int 1]⟩
def D_ratio_of : DefP := ⟨.g "ratio_of", "ratio_of", "ratio_of", (st 23), []⟩
def D_sums_told : DefP := ⟨.g "sums_told", "sums_told", "sums_told", (st 49), []⟩
def D_wholes : DefP := ⟨.g "wholes", "wholes", "wholes", (st 25), []⟩
def D_parts_joined : DefP := ⟨.g "parts_joined", "parts_joined", "parts_joined", (st 50), []⟩
def D_want_columns : DefP := ⟨.g "want_columns", "want_columns", "want_columns", (st 30), []⟩
def D_Form_init : DefP := ⟨.m "Form" "__init__", "__init__", "Form.__init__", (mth 54 0), []⟩
def D_told_pair : DefP := ⟨.g "told_pair", "told_pair", "told_pair", (st 21), []⟩
def D_Ratio_add : DefP := ⟨.m "Ratio" "__add__", "__add__", "Ratio.__add__", (mth 20 6), []⟩
def D_Ratio_eq : DefP := ⟨.m "Ratio" "__eq__", "__eq__", "Ratio.__eq__", (mth 20 17), []⟩
def D_Ratio_mul : DefP := ⟨.m "Ratio" "__mul__", "__mul__", "Ratio.__mul__", (mth 20 10), []⟩
def D_Ratio_neg : DefP := ⟨.m "Ratio" "__neg__", "__neg__", "Ratio.__neg__", (mth 20 12), []⟩
def D_Ratio_is_whole : DefP := ⟨.p "Ratio" "is_whole", "is_whole", "Ratio.is_whole", (mth 20 4), []⟩
def D_Ratio_sign : DefP := ⟨.p "Ratio" "sign", "sign", "Ratio.sign", (mth 20 3), []⟩
def D_Ratio_top : DefP := ⟨.p "Ratio" "top", "top", "Ratio.top", (mth 20 1), []⟩
def D_is_row : DefP := ⟨.g "is_row", "is_row", "is_row", (st 31), []⟩
def D_told_row : DefP := ⟨.g "told_row", "told_row", "told_row", (st 32), []⟩
def D_Table_init : DefP := ⟨.m "Table" "__init__", "__init__", "Table.__init__", (mth 33 0), []⟩
def D_Table_columns : DefP := ⟨.p "Table" "columns", "columns", "Table.columns", (mth 33 1), []⟩
def D_Table_height : DefP := ⟨.p "Table" "height", "height", "Table.height", (mth 33 2), []⟩
def D_Table_rows : DefP := ⟨.m "Table" "rows", "rows", "Table.rows", (mth 33 3), []⟩
def D__law_arranged : DefP := ⟨.g "_law_arranged", "_law_arranged", "_law_arranged", (st 83), []⟩
def D__law_at : DefP := ⟨.g "_law_at", "_law_at", "_law_at", (st 81), []⟩
def D__law_draw : DefP := ⟨.g "_law_draw", "_law_draw", "_law_draw", (st 78), []⟩
def D__law_letter : DefP := ⟨.g "_law_letter", "_law_letter", "_law_letter", (st 80), []⟩
def D__law_pick : DefP := ⟨.g "_law_pick", "_law_pick", "_law_pick", (st 79), []⟩
def D__law_ways : DefP := ⟨.g "_law_ways", "_law_ways", "_law_ways", (st 85), []⟩
def D__law_form : DefP := ⟨.g "_law_form", "_law_form", "_law_form", (st 86), []⟩
def D__law_held : DefP := ⟨.g "_law_held", "_law_held", "_law_held", (st 88), []⟩
def D__law_moved : DefP := ⟨.g "_law_moved", "_law_moved", "_law_moved", (st 90), []⟩
def D__law_plain : DefP := ⟨.g "_law_plain", "_law_plain", "_law_plain", (st 89), []⟩
def D__law_sum : DefP := ⟨.g "_law_sum", "_law_sum", "_law_sum", (st 82), []⟩
def D__law_result : DefP := ⟨.g "_law_result", "_law_result", "_law_result", (st 87), []⟩
def D__law_is_exchange : DefP := ⟨.g "_law_is_exchange", "_law_is_exchange", "_law_is_exchange", (st 91), []⟩
def D__law_pot : DefP := ⟨.g "_law_pot", "_law_pot", "_law_pot", (st 77), []⟩
def D__law_rows : DefP := ⟨.g "_law_rows", "_law_rows", "_law_rows", (st 84), []⟩
def D_are_alike : DefP := ⟨.g "are_alike", "are_alike", "are_alike", (st 61), []⟩
def D_arrangements_many : DefP := ⟨.g "arrangements_many", "arrangements_many", "arrangements_many", (st 60), []⟩
def D_grouped : DefP := ⟨.g "grouped", "grouped", "grouped", (st 59), []⟩
def D_barring_at : DefP := ⟨.g "barring_at", "barring_at", "barring_at", (st 69), []⟩
def D_marked : DefP := ⟨.g "marked", "marked", "marked", (st 68), []⟩
def D_raised : DefP := ⟨.g "raised", "raised", "raised", (st 65), []⟩
def D_with_less : DefP := ⟨.g "with_less", "with_less", "with_less", (st 64), []⟩
def D_at_number : DefP := ⟨.g "at_number", "at_number", "at_number", (st 66), []⟩
def D_rows_for : DefP := ⟨.g "rows_for", "rows_for", "rows_for", (st 67), []⟩
def D_moved_to : DefP := ⟨.g "moved_to", "moved_to", "moved_to", (st 62), []⟩
def D_with_exchange : DefP := ⟨.g "with_exchange", "with_exchange", "with_exchange", (st 63), []⟩
def D_unlike_at : DefP := ⟨.g "unlike_at", "unlike_at", "unlike_at", (st 70), []⟩
def D_exchange_at_of : DefP := ⟨.g "exchange_at_of", "exchange_at_of", "exchange_at_of", (st 71), []⟩
def D_want_form : DefP := ⟨.g "want_form", "want_form", "want_form", (st 56), []⟩
def D_exchange_at : DefP := ⟨.g "exchange_at", "exchange_at", "exchange_at", (st 74), []⟩
def D_table_of : DefP := ⟨.g "table_of", "table_of", "table_of", (st 34), []⟩
def D_want_table : DefP := ⟨.g "want_table", "want_table", "want_table", (st 35), []⟩
def D_exchanged : DefP := ⟨.g "exchanged", "exchanged", "exchanged", (st 36), []⟩
def D_exchange_in : DefP := ⟨.g "exchange_in", "exchange_in", "exchange_in", (st 72), []⟩
def D_worth_at : DefP := ⟨.g "worth_at", "worth_at", "worth_at", (st 42), []⟩
def D_worths_at : DefP := ⟨.g "worths_at", "worths_at", "worths_at", (st 43), []⟩
def D_ahead_sums : DefP := ⟨.g "ahead_sums", "ahead_sums", "ahead_sums", (st 44), []⟩
def D_behind_sums : DefP := ⟨.g "behind_sums", "behind_sums", "behind_sums", (st 45), []⟩
def D_total_of : DefP := ⟨.g "total_of", "total_of", "total_of", (st 26), []⟩
def D_worths_of_form : DefP := ⟨.g "worths_of_form", "worths_of_form", "worths_of_form", (st 57), []⟩
def D_is_exchange_at : DefP := ⟨.g "is_exchange_at", "is_exchange_at", "is_exchange_at", (st 75), []⟩
def D_is_free_at : DefP := ⟨.g "is_free_at", "is_free_at", "is_free_at", (st 73), []⟩
def D__law_right : DefP := ⟨.g "_law_right", "_law_right", "_law_right", (st 92), []⟩
def D_law : DefP := ⟨.g "law", "law", "law", (st 93), []⟩
def defsL : List DefP := [D_is_list, D_is_integer, D_is_number, D_is_count, D_is_letter_of, D_is_word_of, D_term_length, D_is_term, D_is_term_part, D_put_more, D_divisor_of, D_Ratio_init, D_ratio_of, D_sums_told, D_wholes, D_parts_joined, D_want_columns, D_Form_init, D_told_pair, D_Ratio_add, D_Ratio_eq, D_Ratio_mul, D_Ratio_neg, D_Ratio_is_whole, D_Ratio_sign] ++ [D_Ratio_top, D_is_row, D_told_row, D_Table_init, D_Table_columns, D_Table_height, D_Table_rows, D__law_arranged, D__law_at, D__law_draw, D__law_letter, D__law_pick, D__law_ways, D__law_form, D__law_held, D__law_moved, D__law_plain, D__law_sum, D__law_result, D__law_is_exchange, D__law_pot, D__law_rows, D_are_alike, D_arrangements_many, D_grouped] ++ [D_barring_at, D_marked, D_raised, D_with_less, D_at_number, D_rows_for, D_moved_to, D_with_exchange, D_unlike_at, D_exchange_at_of, D_want_form, D_exchange_at, D_table_of, D_want_table, D_exchanged, D_exchange_in, D_worth_at, D_worths_at, D_ahead_sums, D_behind_sums, D_total_of, D_worths_of_form, D_is_exchange_at, D_is_free_at, D__law_right] ++ [D_law]
def gloL : List Str := (["is_list", "is_integer", "is_number", "is_count", "is_letter_of", "is_word_of", "term_length", "is_term", "is_term_part", "put_more", "divisor_of", "ratio_of", "sums_told", "wholes", "parts_joined", "want_columns", "told_pair", "is_row", "told_row", "_law_arranged", "_law_at", "_law_draw", "_law_letter", "_law_pick", "_law_ways"] : List Str) ++ (["_law_form", "_law_held", "_law_moved", "_law_plain", "_law_sum", "_law_result", "_law_is_exchange", "_law_pot", "_law_rows", "are_alike", "arrangements_many", "grouped", "barring_at", "marked", "raised", "with_less", "at_number", "rows_for", "moved_to", "with_exchange", "unlike_at", "exchange_at_of", "want_form", "exchange_at", "table_of"] : List Str) ++ (["want_table", "exchanged", "exchange_in", "worth_at", "worths_at", "ahead_sums", "behind_sums", "total_of", "worths_of_form", "is_exchange_at", "is_free_at", "_law_right", "law", "Ratio", "Table", "Form"] : List Str)
def freeL : List Str := ["isinstance", "list", "tuple", "int", "bool", "len", "all", "sum", "min", "abs", "repr", "sorted", "max", "divmod", "dict", "range", "enumerate", "zip", "set"]
def numsL : List (Str × Int) := [("MOST_COLUMNS", 3), ("MOST_LETTERS", 8), ("MOST_PARTS", 400), ("MOST_POWER", 8), ("MOST_ROWS", 40)]
def propL : List (Cl × Str) := [(.rat, "sign"), (.rat, "top"), (.rat, "is_whole"), (.tab, "columns"), (.tab, "height")]
end Pd
end
section
set_option Elab.async false
set_option linter.all false
set_option maxRecDepth 100000
set_option maxHeartbeats 4000000
/-! PdHook: what the top leaves, read by a Hook of its own. -/
namespace Pd
open PySem PySem.Spec PyProof.Rows L2
def fnPA (K : PySem.W.Frag) (a : Addr) : He.FnW := match K.lookup a with
  | some ⟨_, _, .func fd, _⟩ => some (fd.name, fd.qualname, fd.params, fd.body, fd.scope, fd.globals, fd.closure, fd.builtins)
  | _ => none
def fnP (K : PySem.W.Frag) (p : Pt) : He.FnW := fnPA K (pAd K p)
def DefP.val (d : DefP) : He.FnW := some (d.name, d.qual, defArgs d.s, .stmts (defBody d.s), defScope d.s, mainGlobals, [], builtinsNs)
def DefP.okA (K : PySem.W.Frag) (d : DefP) (a : Addr) : Bool := PySem.W.keepIn K (.ref a) && (match K.lookup a with
  | some ⟨_, _, .func fd, _⟩ => PySem.W.codeIn K fd.code d.qual && (He.dflB K fd.defaults d.dfl && He.kwdB K fd.kwdefaults [])
  | _ => false)
def DefP.okB (K : PySem.W.Frag) (d : DefP) : Bool := d.okA K (pAd K d.pt)
theorem DefP.funD {K : PySem.W.Frag} {d : DefP} (e : fnP K d.pt = d.val) (c : d.okB K = true) : ∃ fd, d.fnd K fd := by
  obtain ⟨kp, c2⟩ := He.ba c
  unfold fnP fnPA at e
  cases q : K.lookup (pAd K d.pt) with
  | none => rw [q] at c2; cases c2
  | some o =>
    obtain ⟨oc, od, dt, osl⟩ := o
    rw [q] at c2 e
    cases dt with
    | func fd =>
      obtain ⟨n1, n2, n3, n4, n5, n6, n7, n8, n9, n10, n11, n12, n13, n14, n15⟩ := fd
      have e2 : (some (n1, n2, n3, n4, n5, n6, n7, n15) : He.FnW) = some (d.name, d.qual, defArgs d.s, .stmts (defBody d.s), defScope d.s, mainGlobals, [], builtinsNs) := e
      simp only [Option.some.injEq, Prod.mk.injEq] at e2
      obtain ⟨h1, h2, h3, h4, h5, h6, h7, h8⟩ := e2
      subst h1 h2 h3 h4 h5 h6 h7 h8
      have c3 : (PySem.W.codeIn K n13 d.qual && (He.dflB K n8 d.dfl && He.kwdB K n9 [])) = true := c2
      obtain ⟨k1, k2⟩ := He.ba c3
      obtain ⟨k3, k4⟩ := He.ba k2
      exact ⟨_, ⟨oc, od, n8, n9, n10, n11, n12, n13, n14, osl, rfl, q, k1, He.dflB_ok k3, He.kwdB_ok k4⟩, kp⟩
    | _ => cases c2
def cls3 : List Cl := [.rat, .tab, .frm]
theorem mem_cls3 (c : Cl) : c ∈ cls3 := by cases c <;> simp [cls3]
def cfs : List (Cl × Fd) := [(.rat, .top), (.rat, .bottom), (.tab, .columns), (.tab, .rows), (.frm, .columns), (.frm, .parts)]
abbrev cAd (K : PySem.W.Frag) (c : Cl) : Addr := He.ga K (clN c)
def okCl (K : PySem.W.Frag) (c : Cl) : Bool := (He.Fa.cls (clN c)).ok K && ((He.Fa.mkr (clN c)).ok K && (He.eqO (PySem.W.findIn K (.ref (cAd K c)) "__class__") (some (some (.builtin "object.__class__"))) && (decide (PySem.W.mroIn K (cAd K c) (.type "object") = some true) &&
  (decide (PySem.W.kitOne K (.ref (cAd K c)) (.type "int") = some false) && (decide (PySem.W.kitOne K (.type "int") (.ref (cAd K c)) = some false) && cls3.all fun c' => decide (PySem.W.kitOne K (.ref (cAd K c)) (.ref (cAd K c')) = some (decide (c = c'))))))))
def okProp (K : PySem.W.Frag) (p : Cl × Str) : Bool := He.eqO (PySem.W.findIn K (.ref (cAd K p.1)) p.2) (some (some (.ref (He.ma K (cAd K p.1) p.2)))) && (He.eqO (PySem.W.specialIn K (.ref (He.ma K (cAd K p.1) p.2)) "__get__") (some (some (.builtin "property.__get__"))) &&
  (decide (PySem.W.takesIn K (.ref (He.ma K (cAd K p.1) p.2)) = some true) && (match PySem.W.recIn K (He.ma K (cAd K p.1) p.2) "property" with
    | some (.ref _ :: _) => true
    | _ => false)))
def okSp (K : PySem.W.Frag) (m : Str) : Bool := He.eqO (PySem.W.findIn K (.ref (cAd K .rat)) m) (some (some (.ref (He.ma K (cAd K .rat) m)))) && PySem.W.isFn K (.ref (He.ma K (cAd K .rat) m))
def okSpr (K : PySem.W.Frag) (m : Str) : Bool := He.eqO (PySem.W.findIn K (.ref (cAd K .rat)) m) (some (some (.ref (He.ma K (cAd K .rat) m))))
def okSpi (K : PySem.W.Frag) (m : Str) : Bool := (PySem.W.findIn K (.type "int") m).isSome
def okNs (K : PySem.W.Frag) (x : Str) (v : Value) : Bool := He.eqO (PySem.W.nsIn K mainGlobals x) (some (some v))
/-- what is asked but the defs -/
def oks : List (PySem.W.Frag → Bool) := [
  fun K => gloL.all fun x => (He.Fa.glo x).ok K,
  fun K => freeL.all fun x => (He.Fa.free x).ok K,
  fun K => numsL.all fun p => (He.Fa.int p.1 p.2).ok K,
  fun K => okNs K "gcd" (.builtin "math.gcd") && okNs K "lcm" (.builtin "math.lcm"),
  fun K => cls3.all (okCl K),
  fun K => cfs.all fun p => (He.Fa.noat (clN p.1) (fdS p.2)).ok K,
  fun K => propL.all (okProp K),
  fun K => (He.Fa.meth "Table" "rows").ok K,
  fun K => (["__add__", "__mul__", "__neg__", "__eq__"] : List Str).all (okSp K),
  fun K => (["__radd__", "__rmul__"] : List Str).all (okSpr K),
  fun K => (["__add__", "__mul__", "__radd__", "__rmul__"] : List Str).all (okSpi K),
  fun K => He.eqO (PySem.W.specialIn K (.builtin "object.__class__") "__get__") (some (some (.builtin "getset_descriptor.__get__"))) && decide (PySem.W.takesIn K (.builtin "object.__class__") = some true),
  fun K => PySem.W.selfFirst K (cAd K .rat) && (decide (PySem.W.subIn K (.type "int") (.ref (cAd K .rat)) = some false) && (PySem.W.notFirst K (cAd K .rat) (.ref (cAd K .rat)) && He.eqO (PySem.W.findIn K (.ref (cAd K .rat)) "__ne__") (some (some (.builtin "object.__ne__")))))]
abbrev AlP : Type := Bool × List (Bool × He.FnW)
/-- a def: asked, told, by its address -/
def defP (K : PySem.W.Frag) (d : DefP) : Bool × He.FnW := HandSHeadRun.frNat (pAd K d.pt) fun a => (d.okA K a, fnPA K a)
theorem defP_eq (K : PySem.W.Frag) (d : DefP) : defP K d = (d.okB K, fnP K d.pt) := by
  unfold defP
  rw [HandSHeadRun.frNat_eq]
  rfl
def obsP (K : PySem.W.Frag) : AlP := (oks.all fun f => f K, defsL.map fun d => defP K d)
def valP : AlP := (true, defsL.map fun d => (true, d.val))
/-! the addresses that are looked at, one behind another -/
open HandSHeadRun in
def frL {α : Type} : List Addr → (List Addr → α) → α
  | [], k => k []
  | a :: as, k => frNat a fun a => frL as fun as => k (a :: as)
theorem frL_eq {α : Type} : ∀ (as : List Addr) (k : List Addr → α), frL as k = k as
  | [], k => rfl
  | a :: as, k => by
    unfold frL
    rw [HandSHeadRun.frNat_eq, frL_eq as]
def nsOf (g : Addr → Option Obj) (a : Addr) : List Addr := match g a with
  | some ⟨_, _, .cls cd, _⟩ => [cd.ns]
  | _ => []
def cdOf (g : Addr → Option Obj) (a : Addr) : List Addr := match g a with
  | some ⟨_, _, .func fd, _⟩ => He.refV fd.code ++ He.refV fd.defaults
  | _ => []
def gsA (g : Addr → Option Obj) : List Addr := gloL.map (He.ga (He.frG g [mainGlobals]))
def csA (g : Addr → Option Obj) : List Addr := cls3.map fun c => He.ga (He.frG g [mainGlobals]) (clN c)
def msA (K : PySem.W.Frag) : List Addr := (defsL.flatMap fun d => match d.pt with
  | .m C m => [He.ma K (He.ga K C) m]
  | .p C m => [He.ma K (He.ga K C) m]
  | .g _ => []) ++ [He.ma K (cAd K .rat) "__radd__", He.ma K (cAd K .rat) "__rmul__"]
def psA (K : PySem.W.Frag) : List Addr := defsL.flatMap fun d => match d.pt with
  | .p C m => [pAd K (.p C m)]
  | _ => []
def asP {α : Type} (g : Addr → Option Obj) (k : List Addr → α) : α :=
  frL (gsA g) fun gs => frL (csA g) fun cs => frL (cs.flatMap (nsOf g)) fun ns => frL (msA (He.frG g (mainGlobals :: (cs ++ ns)))) fun ms => frL (psA (He.frG g (mainGlobals :: (cs ++ ns ++ ms)))) fun ps =>
    frL ((gs ++ (ms ++ ps)).flatMap (cdOf g)) fun cd => k (mainGlobals :: (cs ++ (ns ++ (ms ++ (ps ++ (gs ++ cd))))))
def obsPG (g : Addr → Option Obj) : AlP := asP g fun as => obsP (He.frG g as)
theorem obsPG_K (g : Addr → Option Obj) : ∃ as, obsPG g = obsP (He.frG g as) := by
  unfold obsPG asP
  simp only [frL_eq]
  exact ⟨_, rfl⟩
def hookP : PySem.W.Hook where
  α := AlP
  obs := fun s => obsPG s.heap.get?
  val := fun _ => valP
  says := fun _ h => ∃ K : PySem.W.Frag, K.In h ∧ obsP K = valP
  of := fun _ s e => let ⟨as, h⟩ := obsPG_K s.heap.get?; ⟨He.frG s.heap.get? as, He.frG_in, h.symm.trans e⟩
  keeps := fun _ _ _ ⟨K, hK, c⟩ k => ⟨K, PySem.W.Frag.In.keeps hK k, c⟩
theorem obsPG_eq {g : Addr → Option Obj} {s : Shared} (h : ∀ a, g a = s.heap.get? a) : obsPG g = hookP.obs s := by
  have e : g = s.heap.get? := funext h
  rw [e] <;> rfl
end Pd
end
section
set_option Elab.async false
set_option linter.all false
set_option maxRecDepth 100000
set_option maxHeartbeats 0
/-! PdHead: the head: the top's run, what it leaves, and the law by its promise. -/
namespace Pd
open PySem PySem.Spec PyProof.Rows L2
abbrev RR : PySem.W.OpenRow := PySem.W.OpenLaw.row PySem.Challenge.rw_aheadsums_k62_whole_forms_free_at_their
def ob (s : PySem.W.SharedT) : AlP := obsPG (HandSHeadRun.getT s)
theorem ob_eq (s : PySem.W.SharedT) : ob s = hookP.obs s.abs := obsPG_eq (HandSHeadRun.getT_eq s)
def looseL : List Str := (["gcd", "lcm", "_wall", "SumsError", "InvalidColumns", "InvalidForm", "InvalidNumber", "InvalidPosition", "InvalidTable", "DividedByZero", "InvalidParts", "InvalidRows", "is_integer", "is_count", "is_list", "PART", "digits_of", "divisor_of", "Ratio", "told_pair", "is_number", "ratio_of", "want_number", "wholes", "total_of"] : List Str) ++ (["MOST_COLUMNS", "MOST_ROWS", "want_columns", "is_row", "told_row", "Table", "table_of", "want_table", "exchanged", "MOST_POWER", "MOST_LETTERS", "is_letter_of", "is_word_of", "worth_at", "worths_at", "ahead_sums", "behind_sums", "MOST_PARTS", "put_more", "sums_told", "parts_joined", "is_term", "is_term_part", "Form", "term_length"] : List Str) ++ (["want_form", "worths_of_form", "grouped", "arrangements_many", "are_alike", "moved_to", "with_exchange", "with_less", "raised", "at_number", "rows_for", "marked", "barring_at", "unlike_at", "exchange_at_of", "exchange_in", "is_free_at", "exchange_at", "is_exchange_at", "_law_pot", "_law_draw", "_law_pick", "_law_letter", "_law_at", "_law_sum"] : List Str) ++ (["_law_arranged", "_law_rows", "_law_ways", "_law_form", "_law_result", "_law_held", "_law_plain", "_law_moved", "_law_is_exchange", "_law_right"] : List Str)
theorem topRun (w : World) : HandSHeadRun.RunEqI RR (PySem.W.view RR.prog [0, 93]) hookP ob 9000 looseL w := by
  unfold HandSHeadRun.RunEqI
  kernel_rfl
end Pd
end
section
set_option Elab.async false
set_option linter.all false
set_option maxRecDepth 100000
set_option maxHeartbeats 4000000
/-! PdExpr: the pure readings of expressions, tests, arguments, statements, loops. -/
namespace Pd
open PySem PySem.Spec PyProof.Rows L2

/-! ### readings -/
def tD (Z : Wd) (m : E) : TE := fun σ H Q => ∃ (C : Cn) (L : List Addr) (ρ : Env) (d : D) (ρ' : Env), SOk Z C L σ H ρ ∧ m ρ = some (d, ρ') ∧
  ∀ (v : V) (H' : Hp) (L' : List Addr), Same (Fz C L H) (Fz C L' H') → SOk Z C L' σ H' ρ' → Rep Z (Fz C L' H') v d → Q v H'
def tDt (Z : Wd) (m : M Bool) : TT := fun σ H Q => ∃ (C : Cn) (L : List Addr) (ρ : Env) (b : Bool) (ρ' : Env), SOk Z C L σ H ρ ∧ m ρ = some (b, ρ') ∧
  ∀ (H' : Hp) (L' : List Addr), Same (Fz C L H) (Fz C L' H') → SOk Z C L' σ H' ρ' → Q b H'
def tDs (Z : Wd) (m : M (List D)) : TA := fun σ H Q => ∃ (C : Cn) (L : List Addr) (ρ : Env) (ds : List D) (ρ' : Env), SOk Z C L σ H ρ ∧ m ρ = some (ds, ρ') ∧
  ∀ (vs : List V) (H' : Hp) (L' : List Addr), Same (Fz C L H) (Fz C L' H') → SOk Z C L' σ H' ρ' → RepL Z (Fz C L' H') vs ds → Q vs H'
/-- .. of a new container: owned -/
def tN (Z : Wd) (m : E) : TE := fun σ H Q => ∃ (C : Cn) (L : List Addr) (ρ : Env) (d : D) (ρ' : Env), SOk Z C L σ H ρ ∧ m ρ = some (d, ρ') ∧
  ∀ (p : Addr) (o : HO) (H' : Hp) (L' : List Addr), Same (Fz C L H) (Fz C (p :: L') H') → SOk Z C (p :: L') σ H' ρ' → (∀ (k : Nat) (e : D), ρ'[k]? = some (.o e) → σ[k]? ≠ some (some (V.ref p))) → H' p = some o → RepO Z (Fz C (p :: L') H') p o d → Q (.ref p) H'
/-- a statement's -/
def tDS (Z : Wd) (m : S) : TS := fun D' σ H => ∃ (C : Cn) (L : List Addr) (ρ : Env) (c : Ct) (ρ' : Env), SOk Z C L σ H ρ ∧ m ρ = some (c, ρ') ∧
  (c = .nx → ∀ (σ' : St) (H' : Hp) (L' : List Addr), Same (Fz C L H) (Fz C L' H') → SOk Z C L' σ' H' ρ' → D'.nx σ' H') ∧
  (∀ d, c = .rt d → ∀ (v : V) (σ' : St) (H' : Hp) (L' : List Addr), Same (Fz C L H) (Fz C L' H') → SOk Z C L' σ' H' ρ' → Rep Z (Fz C L' H') v d → D'.rt v H')
/-- only the slots of ks are stored -/
def Only (ks : List Nat) (σ σ' : St) : Prop := σ'.length = σ.length ∧ ∀ j, j ∉ ks → σ'[j]? = σ[j]?
theorem Only.refl (ks : List Nat) (σ : St) : Only ks σ σ := ⟨rfl, fun _ _ => rfl⟩
theorem Only.trans {ks : List Nat} {σ σ1 σ2 : St} (a : Only ks σ σ1) (b : Only ks σ1 σ2) : Only ks σ σ2 := ⟨b.1.trans a.1, fun j h => (b.2 j h).trans (a.2 j h)⟩
theorem Only.set {ks : List Nat} {σ : St} {k : Nat} {x : Option V} (h : k ∈ ks) : Only ks σ (σ.set k x) := ⟨List.length_set, fun j hj => List.getElem?_set_ne fun e => hj (by rw [← e]; exact h)⟩
def tDG (Z : Wd) (ks : List Nat) (m : T) : TG := fun v σ H Q => ∃ (C : Cn) (L : List Addr) (ρ : Env) (d : D) (ρ' : Env), SOk Z C L σ H ρ ∧ Rep Z (Fz C L H) v d ∧ m d ρ = some ((), ρ') ∧
  ∀ (σ' : St) (H' : Hp) (L' : List Addr), Only ks σ σ' → Same (Fz C L H) (Fz C L' H') → SOk Z C L' σ' H' ρ' → Q σ' H'
def tDGs (Z : Wd) (ks : List Nat) (m : List T) : TGs := fun vs σ H Q => ∃ (C : Cn) (L : List Addr) (ρ : Env) (ds : List D) (ρ' : Env), SOk Z C L σ H ρ ∧ RepL Z (Fz C L H) vs ds ∧ gs m ds ρ = some ((), ρ') ∧
  ∀ (σ' : St) (H' : Hp) (L' : List Addr), Only ks σ σ' → Same (Fz C L H) (Fz C L' H') → SOk Z C L' σ' H' ρ' → Q σ' H'

/-! ### the program's side of a body -/
structure OkX (Z : Wd) (X : Cx) : Prop where
  P : X.prog = Z.P
  w : X.w = Z.w
  K : X.K = Z.K
  mg : X.mg = Z.mg
  base : X.base = Z.base
  calm : X.calm = true
  nd : X.N.Nodup
theorem OkX.blk {Z : Wd} {X : Cx} (h : OkX Z X) {s : Shared} {H : Hp} {scope : Scope} {env : PySem.Env} {fp : List Addr} : OkX Z (X.blk s H scope env fp) := ⟨h.P, h.w, h.K, h.mg, h.base, h.calm, h.nd⟩

section
variable {Z : Wd} {X : Cx} {e a b c : Expr} {pos : Pos}
theorem PE.imp {t t' : TE} (h : PE X e t) (i : ∀ σ H Q, t' σ H Q → t σ H Q) : PE X e t' := ⟨fun pins s σ H Q I q => h.run pins s σ H Q I (i _ _ _ q)⟩
theorem PT.imp {t t' : TT} (h : PT X e t) (i : ∀ σ H Q, t' σ H Q → t σ H Q) : PT X e t' := ⟨fun pins s σ H Q I q => h.run pins s σ H Q I (i _ _ _ q)⟩
theorem PA.imp {es : List Expr} {t t' : TA} (h : PA X es t) (i : ∀ σ H Q, t' σ H Q → t σ H Q) : PA X es t' := ⟨fun pos pins s σ H Q I q => h.run pos pins s σ H Q I (i _ _ _ q)⟩
theorem PS.imp {st : Stmt} {t t' : TS} (h : PS X st t) (i : ∀ D σ H, t' D σ H → t D σ H) : PS X st t' := ⟨fun pins s σ H D I q => h.run pins s σ H D I (i _ _ _ q)⟩
theorem PSs.imp {st : List Stmt} {t t' : TS} (h : PSs X st t) (i : ∀ D σ H, t' D σ H → t D σ H) : PSs X st t' := ⟨fun pins s σ H D I q => h.run pins s σ H D I (i _ _ _ q)⟩
theorem PG.imp {t t' : TG} (h : PG X e t) (i : ∀ v σ H Q, t' v σ H Q → t v σ H Q) : PG X e t' := ⟨fun pins s σ H v u Q I r q => h.run pins s σ H v u Q I r (i _ _ _ _ q)⟩
theorem PGs.imp {es : List Expr} {t t' : TGs} (h : PGs X es t) (i : ∀ v σ H Q, t' v σ H Q → t v σ H Q) : PGs X es t' := ⟨fun pins s σ H v u Q I r q => h.run pins s σ H v u Q I r (i _ _ _ _ q)⟩
theorem PI.imp {tg iter : Expr} {t t' : TI} (h : PI X tg iter t) (i : ∀ σ H R, t' σ H R → t σ H R) : PI X tg iter t' := ⟨fun pins s σ H R I q => h.run pins s σ H R I (i _ _ _ q)⟩

/-! ### names, constants -/
theorem d_var {k : Nat} (h : PE X e (tVar k)) : PE X e (tD Z (eV k)) := by
  refine PE.imp h fun σ H Q ⟨C, L, ρ, d, ρ', s, hm, q⟩ => ?_
  unfold eV at hm
  cases e1 : ρ[k]? with
  | none => rw [e1] at hm; cases hm
  | some x =>
    rw [e1] at hm
    cases x with
    | u => cases hm
    | i d' =>
      cases hm
      obtain ⟨v, h1, r⟩ := s.imm k d e1
      exact ⟨v, h1, q v H L (Same.refl _) s r⟩
    | o d' =>
      cases hm
      obtain ⟨v, L', h1, sm, s', r⟩ := s.freeze e1
      exact ⟨v, h1, q v H L' sm s' r⟩
theorem d_c {v : V} {d : D} (h : PE X e (tC v)) (r : ∀ F, Rep Z F v d) : PE X e (tD Z (eC d)) := by
  refine PE.imp h fun σ H Q ⟨C, L, ρ, d', ρ', s, hm, q⟩ => ?_
  cases hm
  exact q v H L (Same.refl _) s (r _)
theorem d_int {i : Int} {j} : PE X (.Constant (.int i) j pos) (tD Z (eC (.int i))) := d_c pe_int fun _ => .int i
theorem d_bl {b : Bool} {j} : PE X (.Constant (.bool b) j pos) (tD Z (eC (.bl b))) := d_c pe_bl fun _ => .bl b
theorem d_non {j} : PE X (.Constant .none j pos) (tD Z (eC .non)) := d_c pe_non fun _ => .non
/-- a constant of the module -/
theorem d_glob {x : Str} {i : Int} {u : Value} (hg : Gl X x) (hm : X.mg x = some u) (r : ∃ t, u = .int i t) (hd : (x == ("__debug__" : Str)) = false := by decide) : PE X (.Name x pos) (tD Z (eC (.int i))) :=
  d_c (pe_glob hg hm (v := .int i) r hd) fun _ => .int i

/-! ### operators by values -/
abbrev R1 := V → Hp → VK → Prop
def Tk (H : Hp) (N : List Addr) : Prop := ∀ n ∈ N, H n ≠ none
theorem Tk.no {H : Hp} {N : List Addr} {p : Addr} (h : Tk H N) (e : H p = none) : p ∉ N := fun z => h p z e
def rD1 (Z : Wd) (f : D → Option D) : R1 := fun x H Q => ∃ (N : List Addr) (d d' : D), Tk H N ∧ Rep Z (avoid H N) x d ∧ f d = some d' ∧ ∀ v H', Same H H' → Rep Z (avoid H' N) v d' → Q v H'
def rD2 (Z : Wd) (f : D → D → Option D) : R2 := fun x y H Q => ∃ (N : List Addr) (d e d' : D), Tk H N ∧ Rep Z (avoid H N) x d ∧ Rep Z (avoid H N) y e ∧ f d e = some d' ∧ ∀ v H', Same H H' → Rep Z (avoid H' N) v d' → Q v H'
def rDs (Z : Wd) (f : List D → Option D) : List V → Hp → VK → Prop := fun xs H Q => ∃ (N : List Addr) (ds : List D) (d' : D), Tk H N ∧ RepL Z (avoid H N) xs ds ∧ f ds = some d' ∧ ∀ v H', Same H H' → Rep Z (avoid H' N) v d' → Q v H'

theorem e1_go {f : D → Option D} {ma : E} {σ : St} {H : Hp} {Q : VK} (h : tD Z (e1 f ma) σ H Q) : tD Z ma σ H fun x H1 => rD1 Z f x H1 Q := by
  obtain ⟨C, L, ρ, d, ρ', s, hm, q⟩ := h
  obtain ⟨x, ρ1, h1, hm⟩ := bnd_inv hm
  obtain ⟨y, h2, e⟩ := lift_inv hm
  cases e
  exact ⟨C, L, ρ, x, _, s, h1, fun v H1 L1 sm s1 r => ⟨L1 ++ C.N, x, d, s1.trk, r, h2, fun v' H' sm' r' => q v' H' L1 (sm.trans (Fz_ext sm')) (s1.ext sm') r'⟩⟩
theorem e2_go {f : D → D → Option D} {ma mb : E} {σ : St} {H : Hp} {Q : VK} (h : tD Z (e2 f ma mb) σ H Q) : tD Z ma σ H fun x H1 => tD Z mb σ H1 fun y H2 => rD2 Z f x y H2 Q := by
  obtain ⟨C, L, ρ, d, ρ', s, hm, q⟩ := h
  obtain ⟨x, ρ1, h1, hm⟩ := bnd_inv hm
  obtain ⟨y, ρ2, h2, hm⟩ := bnd_inv hm
  obtain ⟨z, h3, e⟩ := lift_inv hm
  cases e
  exact ⟨C, L, ρ, x, _, s, h1, fun v1 H1 L1 sm1 s1 r1 => ⟨C, L1, ρ1, y, _, s1, h2, fun v2 H2 L2 sm2 s2 r2 =>
    ⟨L2 ++ C.N, x, y, d, s2.trk, r1.mono sm2, r2, h3, fun v' H' sm' r' => q v' H' L2 (sm1.trans (sm2.trans (Fz_ext sm'))) (s2.ext sm') r'⟩⟩⟩
theorem d_op {op : Operator} {f : D → D → Option D} {ma mb : E} (ho : OpR X (binaryOp op) (rD2 Z f)) (ha : PE X a (tD Z ma)) (hb : PE X b (tD Z mb)) : PE X (.BinOp a op b pos) (tD Z (e2 f ma mb)) :=
  PE.imp (pe_op ho ha hb) fun _ _ _ h => e2_go h
theorem d_un {op : UnaryOp} {f : D → Option D} {ma : E} (ho : UnR X (unaryOp op) (rD1 Z f)) (ha : PE X a (tD Z ma)) : PE X (.UnaryOp op a pos) (tD Z (e1 f ma)) :=
  PE.imp (pe_un ho ha) fun _ _ _ h => e1_go h
theorem d_cmp {op : CmpOp} {f : D → D → Option D} {ma mb : E} (ho : OpR X (compareOp op) (rD2 Z f)) (ha : PE X a (tD Z ma)) (hb : PE X b (tD Z mb)) (hm : behindInMarks op b = false) : PE X (.Compare a [op] [b] pos) (tD Z (e2 f ma mb)) :=
  PE.imp (pe_cmpR ho ha hb hm) fun _ _ _ h => e2_go h
theorem d_ix {f : D → D → Option D} {ma mb : E} (ho : IxR X (rD2 Z f)) (ha : PE X a (tD Z ma)) (hb : PE X b (tD Z mb)) (hs : PlainIx b) : PE X (.Subscript a b pos) (tD Z (e2 f ma mb)) :=
  PE.imp (pe_ix ho ha hb hs) fun _ _ _ h => e2_go h

/-! ### tests -/
theorem tst_go {ma : E} {σ : St} {H : Hp} {Q : Bool → Hp → Prop} (h : tDt Z (tst ma) σ H Q) : tD Z ma σ H fun x H1 => ∃ k, x = .bl k ∧ Q k H1 := by
  obtain ⟨C, L, ρ, d, ρ', s, hm, q⟩ := h
  obtain ⟨x, ρ1, h1, hm⟩ := bnd_inv hm
  obtain ⟨y, h2, e⟩ := lift_inv hm
  cases e
  refine ⟨C, L, ρ, x, _, s, h1, fun v H1 L1 sm s1 r => ⟨d, ?_, q H1 L1 sm s1⟩⟩
  cases x with
  | bl b => cases h2; exact r.bl_inv
  | _ => cases h2
/-- an expression whose value is a bool -/
theorem dt_val {ma : E} (h : PE X e (tD Z ma)) (he : ∀ whole, isTrue e X.env whole = (do let v ← whole; standAt e.pos; holding [v] (truthy v)) := by intro _; rfl) : PT X e (tDt Z (tst ma)) :=
  PT.imp (pt_val h he) fun _ _ _ q => tst_go q
theorem dt_cmp {op : CmpOp} {f : D → D → Option D} {ma mb : E} (ho : OpR X (compareOp op) (rD2 Z f)) (ha : PE X a (tD Z ma)) (hb : PE X b (tD Z mb)) (hm : behindInMarks op b = false) : PT X (.Compare a [op] [b] pos) (tDt Z (tst (e2 f ma mb))) :=
  PT.imp (pt_cmpR ho ha hb hm) fun σ H Q q => e2_go (Q := fun x H' => ∃ k, x = .bl k ∧ Q k H') (tst_go q)
theorem dt_not {t : M Bool} (h : PT X a (tDt Z t)) : PT X (.UnaryOp .Not a pos) (tDt Z (tNot t)) :=
  PT.imp (pt_not h) fun σ H Q ⟨C, L, ρ, b, ρ', s, hm, q⟩ => by
    obtain ⟨x, ρ1, h1, hm⟩ := bnd_inv hm
    cases hm
    exact ⟨C, L, ρ, x, _, s, h1, q⟩
theorem dw_and1 {t : M Bool} (h : PT X a (tDt Z t)) : PW X (.BoolOp .And [a] pos) (tDt Z t) := pw_and1 h
theorem dw_or1 {t : M Bool} (h : PT X a (tDt Z t)) : PW X (.BoolOp .Or [a] pos) (tDt Z t) := pw_or1 h
theorem PW.imp {t t' : TT} (h : PW X e t) (i : ∀ σ H Q, t' σ H Q → t σ H Q) : PW X e t' := ⟨fun wh pins s σ H Q I q => h.run wh pins s σ H Q I (i _ _ _ q)⟩
theorem dw_and {rest : List Expr} {t u : M Bool} (ha : PT X a (tDt Z t)) (hb : PW X (.BoolOp .And (b :: rest) pos) (tDt Z u)) : PW X (.BoolOp .And (a :: b :: rest) pos) (tDt Z (tAnd t u)) :=
  PW.imp (pw_and ha hb) fun σ H Q ⟨C, L, ρ, b, ρ', s, hm, q⟩ => by
    obtain ⟨x, ρ1, h1, hm⟩ := bnd_inv hm
    refine ⟨C, L, ρ, x, _, s, h1, fun H1 L1 sm1 s1 => ?_⟩
    cases x with
    | true => exact iteT ⟨C, L1, ρ1, b, ρ', s1, hm, fun H2 L2 sm2 s2 => q H2 L2 (sm1.trans sm2) s2⟩
    | false => cases hm; exact iteF (q H1 L1 sm1 s1)
theorem dw_or {rest : List Expr} {t u : M Bool} (ha : PT X a (tDt Z t)) (hb : PW X (.BoolOp .Or (b :: rest) pos) (tDt Z u)) : PW X (.BoolOp .Or (a :: b :: rest) pos) (tDt Z (tOr t u)) :=
  PW.imp (pw_or ha hb) fun σ H Q ⟨C, L, ρ, b, ρ', s, hm, q⟩ => by
    obtain ⟨x, ρ1, h1, hm⟩ := bnd_inv hm
    refine ⟨C, L, ρ, x, _, s, h1, fun H1 L1 sm1 s1 => ?_⟩
    cases x with
    | false => exact iteF ⟨C, L1, ρ1, b, ρ', s1, hm, fun H2 L2 sm2 s2 => q H2 L2 (sm1.trans sm2) s2⟩
    | true => cases hm; exact iteT (q H1 L1 sm1 s1)
theorem dt_w {t : M Bool} (h : PW X e (tDt Z t)) : PT X e (tDt Z t) := h.pt

/-! ### and, or, not as values -/
theorem d_one {op} {m : E} (h : PE X a (tD Z m)) : PE X (.BoolOp op [a] pos) (tD Z m) := pe_one h
theorem tst_inv {ma : E} {ρ ρ' : Env} {k : Bool} (h : tst ma ρ = some (k, ρ')) : ma ρ = some (.bl k, ρ') := by
  obtain ⟨x, ρ1, h1, hm⟩ := bnd_inv h
  obtain ⟨y, h2, e⟩ := lift_inv hm
  cases e
  cases x with
  | bl b => cases h2; exact h1
  | _ => cases h2
theorem d_and {rest : List Expr} {ma mb : E} (ha : PE X a (tD Z ma)) (hb : PE X (.BoolOp .And (b :: rest) pos) (tD Z mb)) : PE X (.BoolOp .And (a :: b :: rest) pos) (tD Z (eAnd ma mb)) :=
  PE.imp (pe_and ha hb) fun σ H Q ⟨C, L, ρ, d, ρ', s, hm, q⟩ => by
    obtain ⟨x, ρ1, h1, hm⟩ := bnd_inv hm
    refine ⟨C, L, ρ, .bl x, _, s, tst_inv h1, fun v H1 L1 sm1 s1 r => ⟨x, r.bl_inv, ?_⟩⟩
    cases x with
    | true => exact iteT ⟨C, L1, ρ1, d, ρ', s1, hm, fun v2 H2 L2 sm2 s2 r2 => q v2 H2 L2 (sm1.trans sm2) s2 r2⟩
    | false => cases hm; exact iteF (q _ H1 L1 sm1 s1 (.bl false))
theorem d_or {rest : List Expr} {ma mb : E} (ha : PE X a (tD Z ma)) (hb : PE X (.BoolOp .Or (b :: rest) pos) (tD Z mb)) : PE X (.BoolOp .Or (a :: b :: rest) pos) (tD Z (eOr ma mb)) :=
  PE.imp (pe_or ha hb) fun σ H Q ⟨C, L, ρ, d, ρ', s, hm, q⟩ => by
    obtain ⟨x, ρ1, h1, hm⟩ := bnd_inv hm
    refine ⟨C, L, ρ, .bl x, _, s, tst_inv h1, fun v H1 L1 sm1 s1 r => ⟨x, r.bl_inv, ?_⟩⟩
    cases x with
    | false => exact iteF ⟨C, L1, ρ1, d, ρ', s1, hm, fun v2 H2 L2 sm2 s2 r2 => q v2 H2 L2 (sm1.trans sm2) s2 r2⟩
    | true => cases hm; exact iteT (q _ H1 L1 sm1 s1 (.bl true))
theorem d_not {ma : E} (ha : PE X a (tD Z ma)) : PE X (.UnaryOp .Not a pos) (tD Z (eNot ma)) :=
  PE.imp (pe_not ha) fun σ H Q ⟨C, L, ρ, d, ρ', s, hm, q⟩ => by
    obtain ⟨x, ρ1, h1, hm⟩ := bnd_inv hm
    cases hm
    exact ⟨C, L, ρ, .bl x, _, s, tst_inv h1, fun v H1 L1 sm1 s1 r => ⟨x, r.bl_inv, q _ H1 L1 sm1 s1 (.bl _)⟩⟩
theorem d_ifExp {t : M Bool} {ma mb : E} (hc : PT X c (tDt Z t)) (ha : PE X a (tD Z ma)) (hb : PE X b (tD Z mb)) : PE X (.IfExp c a b pos) (tD Z (eIf t ma mb)) :=
  PE.imp (pe_ifExp hc ha hb) fun σ H Q ⟨C, L, ρ, d, ρ', s, hm, q⟩ => by
    obtain ⟨x, ρ1, h1, hm⟩ := bnd_inv hm
    refine ⟨C, L, ρ, x, _, s, h1, fun H1 L1 sm1 s1 => ?_⟩
    cases x with
    | true => exact iteT ⟨C, L1, ρ1, d, ρ', s1, hm, fun v2 H2 L2 sm2 s2 r2 => q v2 H2 L2 (sm1.trans sm2) s2 r2⟩
    | false => exact iteF ⟨C, L1, ρ1, d, ρ', s1, hm, fun v2 H2 L2 sm2 s2 r2 => q v2 H2 L2 (sm1.trans sm2) s2 r2⟩
/-- a op b op' c -/
theorem chain_go {f g : D → D → Option D} {ma mb mc : E} {σ : St} {H : Hp} {Q : VK} (h : tD Z (eChain f g ma mb mc) σ H Q) : tChain (rD2 Z f) (rD2 Z g) (tD Z ma) (tD Z mb) (tD Z mc) σ H Q := by
  obtain ⟨C, L, ρ, d, ρ', s, hm, q⟩ := h
  obtain ⟨x, ρ1, h1, hm⟩ := bnd_inv hm
  obtain ⟨y, ρ2, h2, hm⟩ := bnd_inv hm
  obtain ⟨k, ρ3, h3, hm⟩ := bnd_inv hm
  obtain ⟨k', h4, e⟩ := lift_inv h3
  cases e
  cases e5 : f x y with
  | none => rw [e5] at h4; cases h4
  | some z =>
    rw [e5] at h4
    cases z with
    | bl kk =>
      cases h4
      refine ⟨C, L, ρ, x, _, s, h1, fun v1 H1 L1 sm1 s1 r1 => ⟨C, L1, ρ1, y, _, s1, h2, fun v2 H2 L2 sm2 s2 r2 => ⟨L2 ++ C.N, x, y, .bl k, s2.trk, r1.mono sm2, r2, e5, fun v3 H3 sm3 r3 => ⟨k, r3.bl_inv, ?_⟩⟩⟩⟩
      have s3 := s2.ext sm3
      have sm3' := sm1.trans (sm2.trans (Fz_ext (C := C) (L := L2) sm3))
      cases k with
      | true =>
        obtain ⟨z, ρ4, h5, hm⟩ := bnd_inv hm
        obtain ⟨z', h6, e⟩ := lift_inv hm
        cases e
        refine iteT ⟨C, L2, ρ2, z, _, s3, h5, fun v4 H4 L4 sm4 s4 r4 => ⟨L4 ++ C.N, y, z, d, s4.trk, (r2.mono (Fz_ext sm3)).mono sm4, r4, h6, fun v5 H5 sm5 r5 => ?_⟩⟩
        exact q v5 H5 L4 (sm3'.trans (sm4.trans (Fz_ext sm5))) (s4.ext sm5) r5
      | false =>
        cases hm
        exact iteF (q _ H3 L2 sm3' s3 (.bl false))
    | _ => cases h4
theorem d_chain {op op' : CmpOp} {f g : D → D → Option D} {ma mb mc : E} (ho : OpR X (compareOp op) (rD2 Z f)) (ho' : OpR X (compareOp op') (rD2 Z g)) (ha : PE X a (tD Z ma)) (hb : PE X b (tD Z mb)) (hc : PE X c (tD Z mc)) (hl : lastMarks [op, op'] [b, c] = false) :
    PE X (.Compare a [op, op'] [b, c] pos) (tD Z (eChain f g ma mb mc)) := PE.imp (pe_chain ho ho' ha hb hc hl) fun _ _ _ h => chain_go h
theorem dt_chain {op op' : CmpOp} {f g : D → D → Option D} {ma mb mc : E} (ho : OpR X (compareOp op) (rD2 Z f)) (ho' : OpR X (compareOp op') (rD2 Z g)) (ha : PE X a (tD Z ma)) (hb : PE X b (tD Z mb)) (hc : PE X c (tD Z mc)) (hl : lastMarks [op, op'] [b, c] = false) :
    PT X (.Compare a [op, op'] [b, c] pos) (tDt Z (tst (eChain f g ma mb mc))) := PT.imp (pt_chain ho ho' ha hb hc hl) fun _ _ _ h => chain_go (tst_go h)

/-! ### arguments, displays -/
theorem da_nil : PA X [] (tDs Z (args [])) := PA.imp pa_nil fun σ H Q ⟨C, L, ρ, ds, ρ', s, hm, q⟩ => by
  cases hm
  exact q [] H L (Same.refl _) s .nil
theorem da_cons {es : List Expr} {ma : E} {ms : List E} (ha : PE X e (tD Z ma)) (hr : PA X es (tDs Z (args ms))) (hs : starEach (e :: es) X.env = (false, eval e X.env) :: starEach es X.env := by rfl) : PA X (e :: es) (tDs Z (args (ma :: ms))) :=
  PA.imp (pa_cons ha hr hs) fun σ H Q ⟨C, L, ρ, ds, ρ', s, hm, q⟩ => by
    obtain ⟨x, ρ1, h1, hm⟩ := bnd_inv hm
    obtain ⟨xs, ρ2, h2, hm⟩ := bnd_inv hm
    cases hm
    exact ⟨C, L, ρ, x, _, s, h1, fun v1 H1 L1 sm1 s1 r1 => ⟨C, L1, ρ1, xs, _, s1, h2, fun vs H2 L2 sm2 s2 r2 => q (v1 :: vs) H2 L2 (sm1.trans sm2) s2 (.cons (r1.mono sm2) r2)⟩⟩
theorem args_length {ms : List E} : ∀ {ρ ρ' : Env} {ds : List D}, args ms ρ = some (ds, ρ') → ds.length = ms.length := by
  induction ms with
  | nil => intro ρ ρ' ds h; cases h; rfl
  | cons m ms ih =>
    intro ρ ρ' ds h
    obtain ⟨x, ρ1, h1, hm⟩ := bnd_inv h
    obtain ⟨xs, ρ2, h2, hm⟩ := bnd_inv hm
    cases hm
    rw [List.length_cons, List.length_cons, ih h2]
theorem rep_new {H : Hp} {N : List Addr} {p : Addr} {o : HO} {d : D} (hN : p ∉ N) (hp : H p = none) (r : RepO Z (avoid H N) p o d) : Rep Z (avoid (upd H p o) N) (.ref p) d :=
  .ref (avoid_mk hN upd_same) (r.mono (avoid_same (same_upd hp)))
theorem line1000 : (1000 : Nat) ≤ sizeLine := by rw [sizeLine_eq]; decide
theorem lineM : (2000000 : Nat) ≤ sizeLine := by rw [sizeLine_eq]; decide
theorem d_tup {es : List Expr} {x1} {ms : List E} (h : PA X es (tDs Z (args ms))) (hl : ms.length ≤ 1000 := by decide) : PE X (.Tuple es x1 pos) (tD Z (eTup ms)) :=
  PE.imp (pe_tup h) fun σ H Q ⟨C, L, ρ, d, ρ', s, hm, q⟩ => by
    obtain ⟨xs, ρ1, h1, hm⟩ := bnd_inv hm
    cases hm
    refine ⟨C, L, ρ, xs, _, s, h1, fun vs H1 L1 sm1 s1 r => ⟨?_, fun p hp => ?_⟩⟩
    · rw [r.length, args_length h1]; exact Nat.le_trans hl line1000
    · exact q _ _ L1 (sm1.trans (Fz_ext (same_upd hp))) (s1.ext (same_upd hp)) (rep_new (s1.fresh hp) hp (.tup r))
theorem d_lst {es : List Expr} {ms : List E} (h : PA X es (tDs Z (args ms))) (hl : ms.length ≤ 1000 := by decide) : PE X (.List es pos) (tD Z (eLst ms)) :=
  PE.imp (pe_lst h) fun σ H Q ⟨C, L, ρ, d, ρ', s, hm, q⟩ => by
    obtain ⟨xs, ρ1, h1, hm⟩ := bnd_inv hm
    cases hm
    refine ⟨C, L, ρ, xs, _, s, h1, fun vs H1 L1 sm1 s1 r => ⟨?_, fun p hp => ?_⟩⟩
    · rw [r.length, args_length h1]; exact Nat.le_trans hl line1000
    · exact q _ _ L1 (sm1.trans (Fz_ext (same_upd hp))) (s1.ext (same_upd hp)) (rep_new (s1.fresh hp) hp (.lst r))

/-! ### a new container, owned -/
def rN2 (Z : Wd) (f : D → D → Option D) : R2 := fun x y H Q => ∃ (N : List Addr) (d e d' : D), Tk H N ∧ Rep Z (avoid H N) x d ∧ Rep Z (avoid H N) y e ∧ f d e = some d' ∧ ∀ (p : Addr) (o : HO), H p = none → RepO Z (avoid H N) p o d' → Q (.ref p) (upd H p o)
def rNs (Z : Wd) (f : List D → Option D) : List V → Hp → VK → Prop := fun xs H Q => ∃ (N : List Addr) (ds : List D) (d' : D), Tk H N ∧ RepL Z (avoid H N) xs ds ∧ f ds = some d' ∧ ∀ (p : Addr) (o : HO), H p = none → RepO Z (avoid H N) p o d' → Q (.ref p) (upd H p o)
theorem own_new {C : Cn} {L : List Addr} {σ : St} {H : Hp} {ρ : Env} {o : HO} {d : D} {Q : VK} {H0 : Hp} {L0 : List Addr} (s : SOk Z C L σ H ρ) {p : Addr} (hp : H p = none) (r : RepO Z (Fz C L H) p o d) (sm : Same (Fz C L0 H0) (Fz C L H))
    (q : ∀ (p : Addr) (o : HO) (H' : Hp) (L' : List Addr), Same (Fz C L0 H0) (Fz C (p :: L') H') → SOk Z C (p :: L') σ H' ρ → (∀ (k : Nat) (e : D), ρ[k]? = some (.o e) → σ[k]? ≠ some (some (V.ref p))) → H' p = some o → RepO Z (Fz C (p :: L') H') p o d → Q (.ref p) H') : Q (.ref p) (upd H p o) := by
  obtain ⟨s', na⟩ := s.newo o hp
  exact q p o _ L (sm.trans (Fz_new hp)) s' na upd_same (r.mono (Fz_new hp))
theorem n_lst {es : List Expr} {ms : List E} (h : PA X es (tDs Z (args ms))) (hl : ms.length ≤ 1000 := by decide) : PE X (.List es pos) (tN Z (eLst ms)) :=
  PE.imp (pe_lst h) fun σ H Q ⟨C, L, ρ, d, ρ', s, hm, q⟩ => by
    obtain ⟨xs, ρ1, h1, hm⟩ := bnd_inv hm
    cases hm
    refine ⟨C, L, ρ, xs, _, s, h1, fun vs H1 L1 sm1 s1 r => ⟨?_, fun p hp => ?_⟩⟩
    · rw [r.length, args_length h1]; exact Nat.le_trans hl line1000
    · exact own_new s1 hp (.lst r) sm1 q
theorem n_op {op : Operator} {f : D → D → Option D} {ma mb : E} (ho : OpR X (binaryOp op) (rN2 Z f)) (ha : PE X a (tD Z ma)) (hb : PE X b (tD Z mb)) : PE X (.BinOp a op b pos) (tN Z (e2 f ma mb)) :=
  PE.imp (pe_op ho ha hb) fun σ H Q ⟨C, L, ρ, d, ρ', s, hm, q⟩ => by
    obtain ⟨x, ρ1, h1, hm⟩ := bnd_inv hm
    obtain ⟨y, ρ2, h2, hm⟩ := bnd_inv hm
    obtain ⟨z, h3, e⟩ := lift_inv hm
    cases e
    exact ⟨C, L, ρ, x, _, s, h1, fun v1 H1 L1 sm1 s1 r1 => ⟨C, L1, ρ1, y, _, s1, h2, fun v2 H2 L2 sm2 s2 r2 =>
      ⟨L2 ++ C.N, x, y, d, s2.trk, r1.mono sm2, r2, h3, fun p o hp r => own_new s2 hp r (sm1.trans sm2) q⟩⟩⟩

/-! ### statements -/
variable {st : Stmt} {rest : List Stmt}
theorem s_nil : PSs X [] (tDS Z sNx) := PSs.imp pss_nil fun D' σ H ⟨C, L, ρ, c, ρ', s, hm, q, _⟩ => by
  cases hm
  exact q rfl σ H L (Same.refl _) s
theorem s_cons {m1 m2 : S} (h1 : PS X st (tDS Z m1)) (h2 : PSs X rest (tDS Z m2)) : PSs X (st :: rest) (tDS Z (sSeq m1 m2)) := PSs.imp (pss_cons h1 h2) fun D' σ H ⟨C, L, ρ, c, ρ', s, hm, qn, qr⟩ => by
  obtain ⟨c1, ρ1, e1, hm⟩ := bnd_inv hm
  refine ⟨C, L, ρ, c1, ρ1, s, e1, fun e σ1 H1 L1 sm1 s1 => ?_, fun d e v σ1 H1 L1 sm1 s1 r1 => ?_⟩
  · subst e
    exact ⟨C, L1, ρ1, c, ρ', s1, hm, fun e σ2 H2 L2 sm2 s2 => qn e σ2 H2 L2 (sm1.trans sm2) s2, fun d e v σ2 H2 L2 sm2 s2 r2 => qr d e v σ2 H2 L2 (sm1.trans sm2) s2 r2⟩
  · subst e
    cases hm
    exact qr d rfl v σ1 H1 L1 sm1 s1 r1
theorem s_one {m1 : S} (h1 : PS X st (tDS Z m1)) : PSs X [st] (tDS Z m1) := pss_one h1
theorem s_ret {ma : E} (h : PE X e (tD Z ma)) : PS X (.Return (some e) pos) (tDS Z (sRet ma)) := PS.imp (ps_ret h) fun D' σ H ⟨C, L, ρ, c, ρ', s, hm, qn, qr⟩ => by
  obtain ⟨d, ρ1, e1, hm⟩ := bnd_inv hm
  cases hm
  exact ⟨C, L, ρ, d, _, s, e1, fun v H1 L1 sm1 s1 r1 => qr d rfl v σ H1 L1 sm1 s1 r1⟩
theorem s_ex {ma : E} (h : PE X e (tD Z ma)) (hs : swapsWith e none pos.line X.env = pure false := by rfl) : PS X (.Expr e pos) (tDS Z (sEx ma)) := PS.imp (ps_expr h hs) fun D' σ H ⟨C, L, ρ, c, ρ', s, hm, qn, qr⟩ => by
  obtain ⟨d, ρ1, e1, hm⟩ := bnd_inv hm
  cases hm
  exact ⟨C, L, ρ, d, _, s, e1, fun v H1 L1 sm1 s1 r1 => qn rfl σ H1 L1 sm1 s1⟩
theorem s_if {t : M Bool} {sa sb : List Stmt} {ma mb : S} (hc : PT X c (tDt Z t)) (ha : PSs X sa (tDS Z ma)) (hb : PSs X sb (tDS Z mb)) : PS X (.If c sa sb pos) (tDS Z (sIf t ma mb)) := PS.imp (ps_if hc ha hb) fun D' σ H ⟨C, L, ρ, c, ρ', s, hm, qn, qr⟩ => by
  obtain ⟨x, ρ1, e1, hm⟩ := bnd_inv hm
  refine ⟨C, L, ρ, x, _, s, e1, fun H1 L1 sm1 s1 => ?_⟩
  cases x with
  | true => exact iteT ⟨C, L1, ρ1, c, ρ', s1, hm, fun e σ2 H2 L2 sm2 s2 => qn e σ2 H2 L2 (sm1.trans sm2) s2, fun d e v σ2 H2 L2 sm2 s2 r2 => qr d e v σ2 H2 L2 (sm1.trans sm2) s2 r2⟩
  | false => exact iteF ⟨C, L1, ρ1, c, ρ', s1, hm, fun e σ2 H2 L2 sm2 s2 => qn e σ2 H2 L2 (sm1.trans sm2) s2, fun d e v σ2 H2 L2 sm2 s2 r2 => qr d e v σ2 H2 L2 (sm1.trans sm2) s2 r2⟩
theorem s_never : PS X st (tDS Z sNever) := PS.imp ps_never fun D' σ H ⟨C, L, ρ, c, ρ', s, hm, qn, qr⟩ => nomatch hm

/-! ### targets, assignments -/
variable {ks : List Nat}
theorem dg_name {k : Nat} (h : PG X e (gName k)) (hks : k ∈ ks := by decide) : PG X e (tDG Z ks (gN k)) := PG.imp h fun v σ H Q ⟨C, L, ρ, d, ρ', s, r, hm, q⟩ => by
  unfold gN at hm
  by_cases hk : k < ρ.length
  · rw [if_pos hk] at hm
    cases hm
    exact q _ H L (Only.set hks) (Same.refl _) (s.seti hk r)
  · rw [if_neg hk] at hm
    cases hm
theorem dgs_nil : PGs X [] (tDGs Z ks []) := PGs.imp pgs_nil fun vs σ H Q ⟨C, L, ρ, ds, ρ', s, r, hm, q⟩ => by
  cases r with
  | nil =>
    cases hm
    exact ⟨rfl, q σ H L (Only.refl _ _) (Same.refl _) s⟩
  | cons _ _ => cases hm
theorem dgs_cons {es : List Expr} {g : T} {gr : List T} (h1 : PG X e (tDG Z ks g)) (h2 : PGs X es (tDGs Z ks gr)) (hs : (assignEach (e :: es) X.env).map (·.2) = assign e X.env :: (assignEach es X.env).map (·.2) := by rfl) : PGs X (e :: es) (tDGs Z ks (g :: gr)) :=
  PGs.imp (pgs_cons h1 h2 hs) fun vs σ H Q ⟨C, L, ρ, ds, ρ', s, r, hm, q⟩ => by
    cases r with
    | nil => cases hm
    | @cons v d vs ds r1 r2 =>
      obtain ⟨_, ρ1, e1, hm⟩ := bnd_inv hm
      exact ⟨v, vs, rfl, C, L, ρ, d, ρ1, s, r1, e1, fun σ1 H1 L1 o1 sm1 s1 => ⟨C, L1, ρ1, ds, ρ', s1, r2.mono sm1, hm, fun σ2 H2 L2 o2 sm2 s2 => q σ2 H2 L2 (o1.trans o2) (sm1.trans sm2) s2⟩⟩
theorem gs_length {gr : List T} : ∀ {ds : List D} {ρ ρ' : Env}, gs gr ds ρ = some ((), ρ') → ds.length = gr.length := by
  induction gr with
  | nil => intro ds ρ ρ' h; cases ds with
    | nil => rfl
    | cons _ _ => cases h
  | cons g gr ih => intro ds ρ ρ' h; cases ds with
    | nil => cases h
    | cons d ds =>
      obtain ⟨_, ρ1, e1, hm⟩ := bnd_inv h
      rw [List.length_cons, List.length_cons, ih hm]
theorem dg_tup {es : List Expr} {k : Nat} {gr : List T} (hc : X.calm = true) (h : PGs X es (tDGs Z ks gr)) (hn : (assignEach es X.env).length = gr.length := by rfl) (hst : (assignEach es X.env).findIdx? (·.1) = none := by rfl) : PG X (.Tuple es k pos) (tDG Z ks (gT gr)) :=
  PG.imp (pg_tup hc h hn hst) fun v σ H Q ⟨C, L, ρ, d, ρ', s, r, hm, q⟩ => by
    unfold gT at hm
    cases d with
    | tup ds =>
      obtain ⟨a, xs, rfl, e1, r'⟩ := r.tup_inv
      exact ⟨a, xs, rfl, SqT.of (avoid_le _ _ e1), by rw [r'.length, gs_length hm], C, L, ρ, ds, ρ', s, r', hm, q⟩
    | _ => cases hm
theorem asg_go {ma : E} {g : T} {D' : Ends} {σ : St} {H : Hp} (h : tDS Z (sAsg ma g) D' σ H) : tAsg (tD Z ma) (tDG Z ks g) D' σ H := by
  obtain ⟨C, L, ρ, c, ρ', s, hm, qn, qr⟩ := h
  obtain ⟨d, ρ1, e1, hm⟩ := bnd_inv hm
  obtain ⟨_, ρ2, e2, hm⟩ := bnd_inv hm
  cases hm
  exact ⟨C, L, ρ, d, _, s, e1, fun v H1 L1 sm1 s1 r1 => ⟨C, L1, ρ1, d, _, s1, r1, e2, fun σ2 H2 L2 _ sm2 s2 => qn rfl σ2 H2 L2 (sm1.trans sm2) s2⟩⟩
theorem s_asg {tg : Expr} {ma : E} {g : T} (he : PE X e (tD Z ma)) (hg : PG X tg (tDG Z ks g)) (hs : swapsWithSole [tg] e pos.line X.env = pure false := by rfl) (hw : swappedStores [tg] e X.env = pure none := by rfl)
    (h1 : (assignEach [tg] X.env).map (·.2) = [assign tg X.env] := by rfl) : PS X (.Assign [tg] e pos) (tDS Z (sAsg ma g)) := PS.imp (ps_asg he hg hs hw h1) fun D' σ H q => asg_go q
/-- name = value -/
theorem s_set {k : Nat} {x : Str} {ma : E} {pos' : Pos} (hN : X.N.Nodup) (hi : X.N[k]? = some x) (hx : Loc X.env.scope x) (he : PE X e (tD Z ma)) (hs : swapsWith e (some (.Name x pos')) pos.line X.env = pure false := by rfl) (hf : X.fn x = true ∨ X.env.scope.names.lookup x = some .local := by first | exact .inl rfl | exact .inr rfl | assumption) :
    PS X (.Assign [.Name x pos'] e pos) (tDS Z (sAsg ma (gN k))) := PS.imp (ps_set hN hi hx he hs hf) fun D' σ H q => by
  obtain ⟨C, L, ρ, d, ρ', s, hm, q⟩ := asg_go (ks := [k]) q
  refine ⟨C, L, ρ, d, ρ', s, hm, fun v H1 L1 sm1 s1 r1 => ?_⟩
  obtain ⟨C2, L2, ρ2, d2, ρ2', s2, r2, hm2, q2⟩ := q v H1 L1 sm1 s1 r1
  unfold gN at hm2
  by_cases hk : k < ρ2.length
  · rw [if_pos hk] at hm2
    cases hm2
    exact q2 _ H1 L2 (Only.set (List.mem_singleton.mpr rfl)) (Same.refl _) (s2.seti hk r2)
  · rw [if_neg hk] at hm2
    cases hm2
/-- name = a new container -/
theorem s_new {k : Nat} {x : Str} {ma : E} {pos' : Pos} (hN : X.N.Nodup) (hi : X.N[k]? = some x) (hx : Loc X.env.scope x) (he : PE X e (tN Z ma)) (hs : swapsWith e (some (.Name x pos')) pos.line X.env = pure false := by rfl) (hf : X.fn x = true ∨ X.env.scope.names.lookup x = some .local := by first | exact .inl rfl | exact .inr rfl | assumption) :
    PS X (.Assign [.Name x pos'] e pos) (tDS Z (sNew k ma)) := PS.imp (ps_set hN hi hx he hs hf) fun D' σ H ⟨C, L, ρ, c, ρ', s, hm, qn, qr⟩ => by
  obtain ⟨d, ρ1, e1, hm⟩ := bnd_inv hm
  by_cases hk : k < ρ1.length ∧ k ≠ 0
  · rw [if_pos hk] at hm
    cases hm
    exact ⟨C, L, ρ, d, ρ1, s, e1, fun p o H1 L1 sm1 s1 na e r => qn rfl _ H1 (p :: L1) sm1 (s1.seto hk.1 hk.2 List.mem_cons_self na e r)⟩
  · rw [if_neg hk] at hm
    cases hm
end
end Pd
end
section
set_option Elab.async false
set_option linter.all false
set_option maxRecDepth 100000
set_option maxHeartbeats 4000000
/-! PdLoop: what is walked, for, while, comprehensions, two targets at once, owned things turned. -/
namespace Pd
open PySem PySem.Spec PyProof.Rows L2

/-- an iterator that yields the data ds while F stands -/
def Yl (Z : Wd) (J : It) (F : Hp) (ds : List D) : Prop := ∀ (H : Hp) (N : List Addr), Tk H N → Same F (avoid H N) → (∀ (i : Nat) (d : D), ds[i]? = some d → J.go i H ∧ ∀ x H', J.yld i H x H' → Same H H' ∧ Rep Z (avoid H' N) x d) ∧ J.stop ds.length H
theorem Yl.mono {Z : Wd} {J : It} {F F' : Hp} {ds : List D} (h : Yl Z J F ds) (e : Same F F') : Yl Z J F' ds := fun H N tk q => h H N tk (e.trans q)
def tDI (Z : Wd) (m : I) : TI := fun σ H R => ∃ (C : Cn) (L : List Addr) (ρ : Env) (ds : List D) (ρ' : Env), SOk Z C L σ H ρ ∧ m ρ = some (ds, ρ') ∧
  ∀ (J : It) (H' : Hp) (L' : List Addr), Same (Fz C L H) (Fz C L' H') → SOk Z C L' σ H' ρ' → Yl Z J (Fz C L' H') ds → R J H'

section
variable {Z : Wd} {X : Cx} {e a b c tg iter : Expr} {pos : Pos}
theorem yl_list {H : Hp} {N : List Addr} {K : PySem.W.Frag} {p : Addr} {xs : List V} {ds : List D} (e : avoid H N p = some (.lst xs)) (r : RepL Z (avoid H N) xs ds) : Yl Z (Itl K p) (avoid H N) ds := fun H2 N2 tk sm => by
  have e2 : H2 p = some (.lst xs) := avoid_le _ _ (sm _ _ e)
  refine ⟨fun i d hd => ?_, ⟨xs, SqL.of e2, Nat.le_of_eq r.length⟩⟩
  obtain ⟨v, h1, r1⟩ := r.get hd
  refine ⟨⟨xs, v, SqL.of e2, h1⟩, fun x H' y => ?_⟩
  obtain ⟨rfl, y⟩ := y
  have := y xs (SqL.of e2)
  rw [h1] at this
  cases this
  exact ⟨Same.refl _, r1.mono sm⟩
theorem yl_tup {H : Hp} {N : List Addr} {K : PySem.W.Frag} {p : Addr} {xs : List V} {ds : List D} (e : avoid H N p = some (.tup xs)) (r : RepL Z (avoid H N) xs ds) : Yl Z (Itt K p) (avoid H N) ds := fun H2 N2 tk sm => by
  have e2 : H2 p = some (.tup xs) := avoid_le _ _ (sm _ _ e)
  refine ⟨fun i d hd => ?_, ⟨xs, SqT.of e2, Nat.le_of_eq r.length⟩⟩
  obtain ⟨v, h1, r1⟩ := r.get hd
  refine ⟨⟨xs, v, SqT.of e2, h1⟩, fun x H' y => ?_⟩
  obtain ⟨rfl, y⟩ := y
  have := y xs (SqT.of e2)
  rw [h1] at this
  cases this
  exact ⟨Same.refl _, r1.mono sm⟩
theorem di_list {ma : E} (h : PE X e (tD Z ma)) : PI X tg e (tDI Z (iL ma)) := PI.imp (pi_list h) fun σ H R ⟨C, L, ρ, ds, ρ', s, hm, q⟩ => by
  obtain ⟨x, ρ1, h1, hm⟩ := bnd_inv hm
  cases x with
  | lst ds' =>
    cases hm
    refine ⟨C, L, ρ, _, _, s, h1, fun v H1 L1 sm1 s1 r1 => ?_⟩
    obtain ⟨p, xs, rfl, e1, r⟩ := r1.lst_inv
    exact ⟨p, rfl, ⟨xs, SqL.of (avoid_le _ _ e1)⟩, q _ H1 L1 sm1 s1 (yl_list e1 r)⟩
  | _ => cases hm
theorem di_tup {ma : E} (h : PE X e (tD Z ma)) : PI X tg e (tDI Z (iT ma)) := PI.imp (pi_tup h) fun σ H R ⟨C, L, ρ, ds, ρ', s, hm, q⟩ => by
  obtain ⟨x, ρ1, h1, hm⟩ := bnd_inv hm
  cases x with
  | tup ds' =>
    cases hm
    refine ⟨C, L, ρ, _, _, s, h1, fun v H1 L1 sm1 s1 r1 => ?_⟩
    obtain ⟨p, xs, rfl, e1, r⟩ := r1.tup_inv
    exact ⟨p, rfl, ⟨xs, SqT.of (avoid_le _ _ e1)⟩, q _ H1 L1 sm1 s1 (yl_tup e1 r)⟩
  | _ => cases hm
theorem yl_range {F : Hp} {n : Nat} : Yl Z (Itr 0 n) F ((List.range n).map fun (j : Nat) => D.int j) := fun H N tk sm => by
  refine ⟨fun i d hd => ?_, ?_⟩
  · rw [List.getElem?_map] at hd
    by_cases hi : i < n
    · rw [List.getElem?_range hi] at hd
      cases hd
      refine ⟨hi, fun x H' y => ?_⟩
      obtain ⟨rfl, rfl⟩ := y
      refine ⟨Same.refl _, ?_⟩
      show Rep Z _ (V.int (0 + (i : Int))) _
      rw [Int.zero_add]
      exact .int _
    · rw [List.getElem?_eq_none (by rw [List.length_range]; omega)] at hd
      cases hd
  · show n ≤ _
    rw [List.length_map, List.length_range]
    exact Nat.le_refl _
theorem di_range {ma : E} {p : Pos} (hg : Gl X "range") (hm : X.mg "range" = none) (h : PA X [a] (tDs Z (args [ma]))) (hs : starEach [a] X.env = [(false, eval a X.env)] := by rfl) : PI X tg (.Call (.Name "range" p) [a] [] pos) (tDI Z (iRng ma)) :=
  PI.imp (pi_range1 hg hm h hs) fun σ H R ⟨C, L, ρ, ds, ρ', s, hm, q⟩ => by
    obtain ⟨x, ρ1, h1, hm⟩ := bnd_inv hm
    cases x with
    | int n =>
      refine ⟨C, L, ρ, [.int n], ρ1, s, by unfold args; rw [bnd_some h1]; rfl, fun vs H1 L1 sm1 s1 r1 => ?_⟩
      cases r1 with
      | cons r1 r2 =>
        cases r2
        by_cases hn : -(2 ^ 40) ≤ n ∧ n ≤ 2 ^ 40
        · simp only [hn, if_true] at hm
          cases hm
          exact ⟨n, by rw [r1.int_inv], by omega, by omega, q _ H1 L1 sm1 s1 yl_range⟩
        · simp only [hn, if_false] at hm
          cases hm
    | _ => cases hm

/-! ### for -/
theorem s_for {body : List Stmt} {mi : I} {g : T} {mb : S} (hp : PassesOwn (model X.prog X.w) X.A X.env X.xe) (hc : X.calm = true) (hi : PI X tg iter (tDI Z mi)) {ks : List Nat} (hg : PG X tg (tDG Z ks g)) (hb : PSs X body (tDS Z mb))
    (hs : ∀ x, foldedSetIterable iter X.env x = pure x := by intro _; rfl) : PS X (.For tg iter body [] pos) (tDS Z (sFor mi g mb)) := PS.imp (ps_for hp hc hi hg hb hs) fun D' σ H ⟨C, L, ρ, c, ρ', s, hm, qn, qr⟩ => by
  obtain ⟨ds, ρ1, h1, hm⟩ := bnd_inv hm
  refine ⟨C, L, ρ, ds, ρ1, s, h1, fun J H1 L1 sm1 s1 y => ?_⟩
  refine ⟨fun i m σ2 H2 => m = ds.length - i ∧ i ≤ ds.length ∧ ∃ L2 ρ2, Same (Fz C L1 H1) (Fz C L2 H2) ∧ SOk Z C L2 σ2 H2 ρ2 ∧ forL g mb (ds.drop i) ρ2 = some (c, ρ'), ⟨ds.length, rfl, Nat.zero_le _, L1, ρ1, Same.refl _, s1, hm⟩, ?_⟩
  rintro i m σ2 H2 ⟨rfl, hi', L2, ρ2, sm2, s2, h2⟩
  obtain ⟨yg, ys⟩ := y H2 (L2 ++ C.N) s2.trk sm2
  by_cases hlt : i < ds.length
  · obtain ⟨go, yl⟩ := yg i ds[i] (by simp [hlt])
    rw [List.drop_eq_getElem_cons hlt] at h2
    obtain ⟨_, ρ3, e3, h2⟩ := bnd_inv h2
    obtain ⟨c3, ρ4, e4, h2⟩ := bnd_inv h2
    refine .inr ⟨go, fun σ' H' => i + 1 ≤ ds.length ∧ ∃ L2 ρ2, Same (Fz C L1 H1) (Fz C L2 H') ∧ SOk Z C L2 σ' H' ρ2 ∧ forL g mb (ds.drop (i + 1)) ρ2 = some (c, ρ'), fun σ' H' w => ⟨ds.length - (i + 1), by omega, rfl, w.1, w.2⟩, fun x H3 yy => ?_⟩
    obtain ⟨sm3, r3⟩ := yl x H3 yy
    refine ⟨C, L2, ρ2, ds[i], ρ3, s2.ext sm3, r3, e3, fun σ4 H4 L4 _ sm4 s4 => ⟨C, L4, ρ3, c3, ρ4, s4, e4, fun e5 σ5 H5 L5 sm5 s5 => ?_, fun d e5 v σ5 H5 L5 sm5 s5 r5 => ?_⟩⟩
    · subst e5
      exact ⟨hlt, L5, ρ4, sm2.trans ((Fz_ext sm3).trans (sm4.trans sm5)), s5, h2⟩
    · subst e5
      cases h2
      exact qr d rfl v σ5 H5 L5 (sm1.trans (sm2.trans ((Fz_ext sm3).trans (sm4.trans sm5)))) s5 r5
  · have e : i = ds.length := by omega
    subst e
    rw [List.drop_length] at h2
    cases h2
    exact .inl ⟨ys, qn rfl σ2 H2 L2 (sm1.trans sm2) s2⟩
/-! ### while -/
theorem s_while {body : List Stmt} {t : M Bool} {mb : S} (n : Nat) (hp : PassesOwn (model X.prog X.w) X.A X.env X.xe) (hc : PT X c (tDt Z t)) (hb : PSs X body (tDS Z mb)) : PS X (.While c body [] pos) (tDS Z (sWhile t mb n)) := PS.imp (ps_while hp hc hb) fun D' σ H ⟨C, L, ρ, c, ρ', s, hm, qn, qr⟩ => by
  refine ⟨fun m σ2 H2 => ∃ L2 ρ2, Same (Fz C L H) (Fz C L2 H2) ∧ SOk Z C L2 σ2 H2 ρ2 ∧ sWhile t mb m ρ2 = some (c, ρ'), ⟨n, L, ρ, Same.refl _, s, hm⟩, ?_⟩
  rintro m σ2 H2 ⟨L2, ρ2, sm2, s2, h2⟩
  cases m with
  | zero => cases h2
  | succ m =>
    obtain ⟨x, ρ3, e3, h2⟩ := bnd_inv h2
    refine ⟨C, L2, ρ2, x, ρ3, s2, e3, fun H3 L3 sm3 s3 => ?_⟩
    cases x with
    | false =>
      cases h2
      exact iteF (qn rfl σ2 H3 L3 (sm2.trans sm3) s3)
    | true =>
      obtain ⟨c4, ρ4, e4, h2⟩ := bnd_inv h2
      refine iteT ⟨fun σ' H' => ∃ L2 ρ2, Same (Fz C L H) (Fz C L2 H') ∧ SOk Z C L2 σ' H' ρ2 ∧ sWhile t mb m ρ2 = some (c, ρ'), fun σ' H' w => ⟨m, Nat.lt_succ_self _, w⟩, C, L3, ρ3, c4, ρ4, s3, e4, fun e5 σ5 H5 L5 sm5 s5 => ?_, fun d e5 v σ5 H5 L5 sm5 s5 r5 => ?_⟩
      · subst e5
        exact ⟨L5, ρ4, sm2.trans (sm3.trans sm5), s5, h2⟩
      · subst e5
        cases h2
        exact qr d rfl v σ5 H5 L5 (sm2.trans (sm3.trans sm5)) s5 r5

/-! ### comprehensions -/
theorem wipe_get {σ : St} {j : Nat} : ∀ {vs : List Nat}, (wipe σ vs)[j]? = if j ∈ vs then (if j < σ.length then some none else none) else σ[j]?
  | [] => by simp [wipe]
  | v :: vs => by
    unfold wipe
    by_cases hv : v = j
    · subst hv
      rw [if_pos List.mem_cons_self]
      by_cases hl : v < σ.length
      · rw [if_pos hl, List.getElem?_set_self (by rw [wipe_length]; exact hl)]
      · rw [if_neg hl, List.getElem?_eq_none]
        rw [List.length_set, wipe_length]
        omega
    · rw [List.getElem?_set_ne hv, wipe_get]
      have e : (j ∈ v :: vs) = (j ∈ vs) := by
        rw [List.mem_cons]
        exact propext ⟨fun h => h.elim (fun z => absurd z.symm hv) id, .inr⟩
      simp only [e]
theorem wipeE_length {ρ : Env} : ∀ {vs : List Nat}, (wipeE ρ vs).length = ρ.length
  | [] => rfl
  | v :: vs => by unfold wipeE; rw [List.length_set, wipeE_length]
theorem wipeE_get {ρ : Env} {j : Nat} : ∀ {vs : List Nat}, (wipeE ρ vs)[j]? = if j ∈ vs then (if j < ρ.length then some .u else none) else ρ[j]?
  | [] => by simp [wipeE]
  | v :: vs => by
    unfold wipeE
    by_cases hv : v = j
    · subst hv
      rw [if_pos List.mem_cons_self]
      by_cases hl : v < ρ.length
      · rw [if_pos hl, List.getElem?_set_self (by rw [wipeE_length]; exact hl)]
      · rw [if_neg hl, List.getElem?_eq_none]
        rw [List.length_set, wipeE_length]
        omega
    · rw [List.getElem?_set_ne hv, wipeE_get]
      have e : (j ∈ v :: vs) = (j ∈ vs) := by
        rw [List.mem_cons]
        exact propext ⟨fun h => h.elim (fun z => absurd z.symm hv) id, .inr⟩
      simp only [e]
theorem wipe_only {σ σ2 : St} {vs : List Nat} (h : Only vs (wipe σ vs) σ2) : wipe σ2 vs = wipe σ vs := by
  refine List.ext_getElem? fun j => ?_
  have hl : σ2.length = σ.length := h.1.trans (wipe_length σ vs)
  rw [wipe_get, wipe_get, hl]
  by_cases hj : j ∈ vs
  · rw [if_pos hj, if_pos hj]
  · rw [if_neg hj, if_neg hj, h.2 j hj, wipe_get, if_neg hj]
theorem wipeE_some {ρ : Env} {vs : List Nat} {j : Nat} {x : Sl} (h : (wipeE ρ vs)[j]? = some x) (hx : x ≠ .u) : j ∉ vs ∧ ρ[j]? = some x := by
  rw [wipeE_get] at h
  by_cases hj : j ∈ vs
  · rw [if_pos hj] at h
    by_cases hl : j < ρ.length
    · rw [if_pos hl] at h; cases h; exact absurd rfl hx
    · rw [if_neg hl] at h; cases h
  · rw [if_neg hj] at h; exact ⟨hj, h⟩
theorem SOk.wiped {C : Cn} {L : List Addr} {σ : St} {H : Hp} {ρ : Env} (s : SOk Z C L σ H ρ) (vs : List Nat) : SOk Z C L (wipe σ vs) H (wipeE ρ vs) := by
  have key : ∀ {j : Nat} {x : Sl}, (wipeE ρ vs)[j]? = some x → x ≠ .u → (wipe σ vs)[j]? = σ[j]? ∧ ρ[j]? = some x := fun {j x} h hx => by
    obtain ⟨h1, h2⟩ := wipeE_some h hx
    exact ⟨by rw [wipe_get, if_neg h1], h2⟩
  refine ⟨s.kept, s.new, s.apart, s.trk, by rw [wipe_length, wipeE_length]; exact s.len, fun k d h => ?_, fun k d h => ?_, fun i j d e hi hj hh => ?_, fun a d ha h => ?_⟩
  · obtain ⟨h1, h2⟩ := key h (fun z => nomatch z)
    rw [h1]; exact s.imm k d h2
  · obtain ⟨h1, h2⟩ := key h (fun z => nomatch z)
    rw [h1]; exact s.own k d h2
  · obtain ⟨h1, h2⟩ := key hi (fun z => nomatch z)
    obtain ⟨h3, h4⟩ := key hj (fun z => nomatch z)
    rw [h1, h3] at hh
    exact s.inj i j d e h2 h4 hh
  · obtain ⟨h1, h2⟩ := key h (fun z => nomatch z)
    rw [h1]; exact s.p0 a d ha h2
/-- the forgotten slots hold what they like -/
theorem SOk.unwiped {C : Cn} {L : List Addr} {σ : St} {H : Hp} {ρ : Env} {vs : List Nat} (s : SOk Z C L (wipe σ vs) H (wipeE ρ vs)) : SOk Z C L σ H (wipeE ρ vs) := by
  have key : ∀ {j : Nat} {x : Sl}, (wipeE ρ vs)[j]? = some x → x ≠ .u → (wipe σ vs)[j]? = σ[j]? := fun {j x} h hx => by
    obtain ⟨h1, h2⟩ := wipeE_some h hx
    rw [wipe_get, if_neg h1]
  refine ⟨s.kept, s.new, s.apart, s.trk, by rw [← s.len, wipe_length], fun k d h => ?_, fun k d h => ?_, fun i j d e hi hj hh => ?_, fun a d ha h => ?_⟩
  · rw [← key h (fun z => nomatch z)]; exact s.imm k d h
  · rw [← key h (fun z => nomatch z)]; exact s.own k d h
  · rw [← key hi (fun z => nomatch z), ← key hj (fun z => nomatch z)] at hh
    exact s.inj i j d e hi hj hh
  · rw [← key h (fun z => nomatch z)]; exact s.p0 a d ha h
/-- the state seen as an entry -/
theorem SOk.sub {C : Cn} {L : List Addr} {σ : St} {H : Hp} {ρ : Env} (s : SOk Z C L σ H ρ) : SOk Z ⟨H, L, C.N, C.z⟩ L σ H ρ :=
  ⟨fun _ _ _ e => e, fun _ hl => .inl hl, s.apart, s.trk, s.len, s.imm, s.own, s.inj, s.p0⟩
theorem SOk.back {C : Cn} {L L' : List Addr} {σ σ' : St} {H H' : Hp} {ρ ρ' : Env} (s : SOk Z C L σ H ρ) (s' : SOk Z ⟨H, L, C.N, C.z⟩ L' σ' H' ρ') : SOk Z C L' σ' H' ρ' := by
  refine ⟨fun a o m e => s'.kept a o (fun z => ?_) (s.kept a o m e), fun l hl => ?_, s'.apart, s'.trk, s'.len, s'.imm, s'.own, s'.inj, s'.p0⟩
  · rcases s.new a z with y | y
    · exact m y
    · rw [y] at e; cases e
  · rcases s'.new l hl with y | y
    · exact s.new l y
    · by_cases m : l ∈ C.M
      · exact .inl m
      · refine .inr ?_
        cases e : C.H_0 l with
        | none => rfl
        | some o =>
          have y' : H l = none := y
          have := s.kept l o m e
          rw [y'] at this; cases this
/-- a new tracked thing at p that is to be left alone -/
theorem SOk.hide {C : Cn} {L : List Addr} {σ : St} {H : Hp} {ρ : Env} {p : Addr} (o : HO) (s : SOk Z C L σ H ρ) (hp : H p = none) : SOk Z ⟨C.H_0, C.M, p :: C.N, C.z⟩ L σ (upd H p o) ρ ∧ Same (Fz C L H) (Fz ⟨C.H_0, C.M, p :: C.N, C.z⟩ L (upd H p o)) := by
  have hN := s.fresh hp
  have sm : Same (Fz C L H) (Fz ⟨C.H_0, C.M, p :: C.N, C.z⟩ L (upd H p o)) := fun b u z => by
    obtain ⟨n, z⟩ := avoid_some z
    refine avoid_mk (fun y => ?_) (same_upd hp _ _ z)
    rcases List.mem_append.mp y with y | y
    · exact n (List.mem_append_left _ y)
    · rcases List.mem_cons.mp y with y | y
      · rw [y, hp] at z; cases z
      · exact n (List.mem_append_right _ y)
  have e := s.ext (same_upd (o := o) hp)
  refine ⟨⟨e.kept, s.new, fun l hl z => ?_, fun l hl => ?_, s.len, fun k d h => ?_, fun k d h => ?_, s.inj, s.p0⟩, sm⟩
  · rcases List.mem_cons.mp z with z | z
    · subst z; exact hN (List.mem_append_left _ hl)
    · exact s.apart l hl z
  · rcases List.mem_append.mp hl with y | y
    · exact e.trk l (List.mem_append_left _ y)
    · rcases List.mem_cons.mp y with y | y
      · subst y; rw [upd_same]; exact fun z => nomatch z
      · exact e.trk l (List.mem_append_right _ y)
  · obtain ⟨v, h1, r⟩ := s.imm k d h
    exact ⟨v, h1, r.mono sm⟩
  · obtain ⟨l, u, h1, h2, h3, r⟩ := s.own k d h
    exact ⟨l, u, h1, h2, same_upd hp _ _ h3, r.mono sm⟩
theorem Fz_unhide {C : Cn} {L : List Addr} {H : Hp} {p : Addr} : Same (Fz ⟨C.H_0, C.M, p :: C.N, C.z⟩ L H) (Fz C L H) := avoid_sub fun b hb => by
  rcases List.mem_append.mp hb with z | z
  · exact List.mem_append_left _ z
  · exact List.mem_append_right _ (List.mem_cons_of_mem _ z)
theorem SOk.unhide {C : Cn} {L : List Addr} {σ : St} {H : Hp} {ρ : Env} {p : Addr} (s : SOk Z ⟨C.H_0, C.M, p :: C.N, C.z⟩ L σ H ρ) : SOk Z C L σ H ρ := by
  refine ⟨s.kept, s.new, fun l hl z => s.apart l hl (List.mem_cons_of_mem _ z), fun l hl => s.trk l ?_, s.len, fun k d h => ?_, fun k d h => ?_, s.inj, s.p0⟩
  · rcases List.mem_append.mp hl with z | z
    · exact List.mem_append_left _ z
    · exact List.mem_append_right _ (List.mem_cons_of_mem _ z)
  · obtain ⟨v, h1, r⟩ := s.imm k d h
    exact ⟨v, h1, r.mono Fz_unhide⟩
  · obtain ⟨l, u, h1, h2, h3, r⟩ := s.own k d h
    exact ⟨l, u, h1, h2, h3, r.mono Fz_unhide⟩
/-- what is to be left alone is turned -/
theorem SOk.other {C : Cn} {L : List Addr} {σ : St} {H : Hp} {ρ : Env} {p : Addr} {o : HO} (s : SOk Z C L σ H ρ) (hN : p ∈ C.N) (h0 : p ∈ C.M ∨ C.H_0 p = none) : SOk Z C L σ (upd H p o) ρ ∧ Fz C L (upd H p o) = Fz C L H := by
  have e : Fz C L (upd H p o) = Fz C L H := avoid_upd (List.mem_append_right _ hN)
  refine ⟨⟨fun a u m z => ?_, s.new, s.apart, fun l hl => ?_, s.len, fun k d h => ?_, fun k d h => ?_, s.inj, s.p0⟩, e⟩
  · rw [upd_ne]
    · exact s.kept a u m z
    · intro y
      subst y
      rcases h0 with y | y
      · exact m y
      · rw [y] at z; cases z
  · by_cases y : l = p
    · subst y; rw [upd_same]; exact fun z => nomatch z
    · rw [upd_ne y]; exact s.trk l hl
  · rw [e]; exact s.imm k d h
  · obtain ⟨l, u, h1, h2, h3, r⟩ := s.own k d h
    refine ⟨l, u, h1, h2, ?_, by rw [e]; exact r⟩
    rw [upd_ne]
    · exact h3
    · intro y; subst y; exact s.apart l h2 hN

theorem dts_nil : PTs X [] (tDt Z Pd.tYes) := ⟨fun pins s σ H Q I ⟨C, L, ρ, b, ρ', so, hm, q⟩ => by
  cases hm
  exact pts_nil.run pins s σ H Q I (q H L (Same.refl _) so)⟩
theorem dts_one {t : M Bool} (h : PT X c (tDt Z t)) : PTs X [c] (tDt Z t) := pts_one h

theorem comp_go {vs : List Nat} {mi : I} {g : T} {mt : M Bool} {me : E} {σ : St} {H : Hp} {Q : VK} (h : tD Z (eComp vs mi g mt me) σ H Q) : tLc (tDI Z mi) (tDG Z vs g) (tDt Z mt) (tD Z me) vs σ H Q := by
  obtain ⟨C, L, ρ, d, ρ', s, hm, q⟩ := h
  obtain ⟨ds, ρ1, h1, hm⟩ := bnd_inv hm
  by_cases hds : ds.length ≤ 1000000
  · rw [if_pos hds] at hm
    obtain ⟨_, ρ2, h2, hm⟩ := bnd_inv hm
    cases h2
    obtain ⟨ys, ρ3, h3, hm⟩ := bnd_inv hm
    cases hm
    refine ⟨C, L, ρ, ds, ρ1, s, h1, fun J H1 L1 sm1 s1 y => fun D hD => ?_⟩
    refine ⟨fun i m H2 => m = ds.length - i ∧ i ≤ ds.length ∧ ∃ L2 ρ2 acc ya yr, Same (Fz C L1 H1) (Fz ⟨C.H_0, C.M, D :: C.N, C.z⟩ L2 H2) ∧ SOk Z ⟨C.H_0, C.M, D :: C.N, C.z⟩ L2 (wipe σ vs) H2 (wipeE ρ2 vs) ∧
      H2 D = some (.lst acc) ∧ acc.length ≤ i ∧ RepL Z (Fz ⟨C.H_0, C.M, D :: C.N, C.z⟩ L2 H2) acc ya ∧ compL vs g mt me (ds.drop i) (wipeE ρ2 vs) = some (yr, ρ') ∧ ys = ya ++ yr, ⟨ds.length, rfl, Nat.zero_le _, ?_⟩, ?_⟩
    · obtain ⟨s2, sm2⟩ := (s1.wiped vs).hide (.lst []) hD
      exact ⟨L1, ρ1, [], [], ys, sm2, s2, upd_same, Nat.le_refl _, .nil, h3, rfl⟩
    · rintro i m H2 ⟨rfl, hi', L2, ρ2, acc, ya, yr, sm2, s2, hD2, hl2, r2, h2, e2⟩
      obtain ⟨yg, ysp⟩ := y H2 (L2 ++ D :: C.N) s2.trk sm2
      have hDL : D ∉ L2 := fun z => s2.apart D z List.mem_cons_self
      by_cases hlt : i < ds.length
      · obtain ⟨go, yl⟩ := yg i ds[i] (by simp [hlt])
        rw [List.drop_eq_getElem_cons hlt] at h2
        unfold compL at h2
        -- the turn
        cases e3 : bnd (g ds[i]) (fun _ => bnd mt fun b => if b then bnd me fun y => Pd.ret (some y) else Pd.ret none) (wipeE (wipeE ρ2 vs) vs) with
        | none => rw [e3] at h2; cases h2
        | some p =>
          obtain ⟨r3, ρ4⟩ := p
          rw [e3] at h2
          dsimp only at h2
          cases e4 : compL vs g mt me (ds.drop (i + 1)) (wipeE ρ4 vs) with
          | none => rw [e4] at h2; cases h2
          | some p =>
            obtain ⟨yr', ρ5⟩ := p
            rw [e4] at h2
            cases h2
            have ww : wipeE (wipeE ρ2 vs) vs = wipeE ρ2 vs := List.ext_getElem? fun j => by
              rw [wipeE_get, wipeE_get, wipeE_length]
              by_cases hj : j ∈ vs
              · rw [if_pos hj, if_pos hj]
              · rw [if_neg hj, if_neg hj]
            rw [ww] at e3
            obtain ⟨_, ρ6, e6, e3⟩ := bnd_inv e3
            obtain ⟨b7, ρ7, e7, e3⟩ := bnd_inv e3
            have s2' := s2.sub
            refine .inr ⟨go, fun H' => i + 1 ≤ ds.length ∧ ∃ L2 ρ2 acc ya yr, Same (Fz C L1 H1) (Fz ⟨C.H_0, C.M, D :: C.N, C.z⟩ L2 H') ∧ SOk Z ⟨C.H_0, C.M, D :: C.N, C.z⟩ L2 (wipe σ vs) H' (wipeE ρ2 vs) ∧
              H' D = some (.lst acc) ∧ acc.length ≤ i + 1 ∧ RepL Z (Fz ⟨C.H_0, C.M, D :: C.N, C.z⟩ L2 H') acc ya ∧ compL vs g mt me (ds.drop (i + 1)) (wipeE ρ2 vs) = some (yr, ρ') ∧ ys = ya ++ yr, fun H' w => ⟨ds.length - (i + 1), by omega, rfl, w.1, w.2⟩, fun x H3 yy => ?_⟩
            obtain ⟨sm3, rx⟩ := yl x H3 yy
            have s3 := s2'.ext sm3
            refine ⟨⟨H2, L2, D :: C.N, C.z⟩, L2, wipeE ρ2 vs, ds[i], ρ6, s3, rx, e6, fun σ4 H4 L4 o4 sm4 s4 => ⟨wipe_only o4, ?_⟩⟩
            refine ⟨⟨H2, L2, D :: C.N, C.z⟩, L4, ρ6, b7, ρ7, s4, e7, fun H5 L5 sm5 s5 => ?_⟩
            have wo := wipe_only o4
            cases b7 with
            | false =>
              rw [if_neg Bool.false_ne_true] at e3
              cases e3
              have s6 := SOk.back (C := ⟨C.H_0, C.M, D :: C.N, C.z⟩) s2 s5
              refine iteF ⟨hlt, L5, _, acc, ya, _, sm2.trans ((Fz_ext (C := ⟨C.H_0, C.M, D :: C.N, C.z⟩) sm3).trans (sm4.trans sm5)), ?_, s5.kept D _ hDL hD2, Nat.le_succ_of_le hl2, r2.mono ((Fz_ext (C := ⟨C.H_0, C.M, D :: C.N, C.z⟩) sm3).trans (sm4.trans sm5)), e4, e2⟩
              rw [← wo]
              exact s6.wiped vs
            | true =>
              rw [if_pos rfl] at e3
              obtain ⟨y8, ρ8, e8, e3⟩ := bnd_inv e3
              cases e3
              refine iteT ⟨⟨H2, L2, D :: C.N, C.z⟩, L5, ρ7, y8, _, s5, e8, fun v6 H6 L6 sm6 s6 r6 => ?_⟩
              have smT : Same (Fz ⟨C.H_0, C.M, D :: C.N, C.z⟩ L2 H2) (Fz ⟨C.H_0, C.M, D :: C.N, C.z⟩ L6 H6) := (Fz_ext (C := ⟨C.H_0, C.M, D :: C.N, C.z⟩) sm3).trans (sm4.trans (sm5.trans sm6))
              have hD6 : H6 D = some (.lst acc) := s6.kept D _ hDL hD2
              have s7 := SOk.back (C := ⟨C.H_0, C.M, D :: C.N, C.z⟩) s2 s6
              have h0 : D ∈ C.M ∨ C.H_0 D = none := by
                by_cases m : D ∈ C.M
                · exact .inl m
                · refine .inr ?_
                  cases z : C.H_0 D with
                  | none => rfl
                  | some u => have := s1.kept D u m z; rw [hD] at this; cases this
              obtain ⟨s8, e9⟩ := s7.other (p := D) (o := .lst (acc ++ [v6])) List.mem_cons_self h0
              refine ⟨acc, hD6, ?_, hlt, L6, _, acc ++ [v6], ya ++ [y8], yr', ?_, ?_, upd_same, ?_, ?_, e4, ?_⟩
              · have : acc.length < 1000000 := by omega
                exact Nat.lt_of_lt_of_le this (Nat.le_trans (by decide) lineM)
              · rw [e9]; exact sm2.trans smT
              · rw [← wo]; exact s8.wiped vs
              · rw [List.length_append, List.length_singleton]; omega
              · rw [e9]; exact (r2.mono smT).append (.cons r6 .nil)
              · rw [e2, List.append_assoc]; rfl
      · have e : i = ds.length := by omega
        subst e
        rw [List.drop_length] at h2
        cases h2
        refine .inl ⟨ysp, ?_⟩
        have s3 := s2.unwiped.unhide
        have hDN : D ∉ L2 ++ C.N := fun z => by
          rcases List.mem_append.mp z with z | z
          · exact hDL z
          · exact s1.trk D (List.mem_append_right _ z) hD
        refine q (.ref D) H2 L2 (sm1.trans (sm2.trans Fz_unhide)) s3 (.ref (avoid_mk hDN hD2) (.lst ?_))
        rw [e2, List.append_nil]
        exact r2.mono Fz_unhide
  · rw [if_neg hds] at hm
    cases hm
theorem d_comp {vs : List Nat} {mi : I} {g : T} {mt : M Bool} {me : E} {elt : Expr} {ifs : List Expr} {scope : Scope} {own : List (Str × Nat)} (hc : X.calm = true) (hN : X.N.Nodup) (hi : PI X tg iter (tDI Z mi)) (ok : BlkOk X.N X.env.scope scope own) (hv : own.map (·.2) = vs)
    (hg : ∀ (s : Shared) (H : Hp) (C : Addr) (cl : List (Str × Addr)) (fp : List Addr), PG (X.blk s H scope (compEnvC scope cl C X.env) fp) tg (tDG Z vs g)) (ht : ∀ (s : Shared) (H : Hp) (C : Addr) (cl : List (Str × Addr)) (fp : List Addr), PTs (X.blk s H scope (compEnvC scope cl C X.env) fp) ifs (tDt Z mt))
    (he : ∀ (s : Shared) (H : Hp) (C : Addr) (cl : List (Str × Addr)) (fp : List Addr), PE (X.blk s H scope (compEnvC scope cl C X.env) fp) elt (tD Z me)) (hs : ∀ x, foldedSetIterable iter X.env x = pure x := by intro _; rfl) :
    PE X (.ListComp elt [⟨tg, iter, ifs, 0⟩] scope pos) (tD Z (eComp vs mi g mt me)) := by
  subst hv
  exact PE.imp (pe_lc hc hN hi ok hg ht he hs) fun σ H Q h => comp_go h
/-- name = [..] -/
theorem s_setLc {vs : List Nat} {mi : I} {g : T} {mt : M Bool} {me : E} {elt : Expr} {ifs : List Expr} {scope : Scope} {own : List (Str × Nat)} {k : Nat} {y : Str} {py spos : Pos} (hc : X.calm = true) (hN : X.N.Nodup) (hy : X.N[k]? = some y) (hyl : X.env.scope.names.lookup y = some .local)
    (hsw : swapsWith (.ListComp elt [⟨tg, iter, ifs, 0⟩] scope pos) (some (.Name y py)) spos.line X.env = pure true) (hi : PI X tg iter (tDI Z mi)) (ok : BlkOk X.N X.env.scope scope own) (hv : own.map (·.2) = vs)
    (hg : ∀ (s : Shared) (H : Hp) (C : Addr) (cl : List (Str × Addr)) (fp : List Addr), PG (X.blk s H scope (compEnvC scope cl C X.env) fp) tg (tDG Z vs g)) (ht : ∀ (s : Shared) (H : Hp) (C : Addr) (cl : List (Str × Addr)) (fp : List Addr), PTs (X.blk s H scope (compEnvC scope cl C X.env) fp) ifs (tDt Z mt))
    (he : ∀ (s : Shared) (H : Hp) (C : Addr) (cl : List (Str × Addr)) (fp : List Addr), PE (X.blk s H scope (compEnvC scope cl C X.env) fp) elt (tD Z me)) (hs : ∀ x, foldedSetIterable iter X.env x = pure x := by intro _; rfl) :
    PS X (.Assign [.Name y py] (.ListComp elt [⟨tg, iter, ifs, 0⟩] scope pos) spos) (tDS Z (sAsg (eComp vs mi g mt me) (gN k))) := by
  subst hv
  refine PS.imp (ps_setLc hc hN hy hyl hsw hi ok hg ht he hs) fun D' σ H ⟨C, L, ρ, c, ρ', s, hm, qn, qr⟩ => ?_
  obtain ⟨d, ρ1, e1, hm⟩ := bnd_inv hm
  obtain ⟨_, ρ2, e2, hm⟩ := bnd_inv hm
  cases hm
  unfold gN at e2
  by_cases hk : k < ρ1.length
  · rw [if_pos hk] at e2
    cases e2
    exact comp_go ⟨C, L, ρ, d, ρ1, s, e1, fun v H1 L1 sm1 s1 r1 => qn rfl _ H1 L1 sm1 (s1.seti hk r1)⟩
  · rw [if_neg hk] at e2
    cases e2
end
end Pd
end
section
set_option Elab.async false
set_option linter.all false
set_option maxRecDepth 100000
set_option maxHeartbeats 4000000
/-! PdOps: operators and builtins by data. -/
namespace Pd
open PySem PySem.Spec PyProof.Rows L2

section
variable {Z : Wd} {X : Cx} {e a b c : Expr} {pos : Pos}

/-! ### ints -/
theorem o_int {f : Value → Value → Sem Value} {P : Int → Int → Prop} {g : Int → Int → V} {G : Int → Int → D} {op : D → D → Option D} (h : OpR X f (rI P g)) (hr : ∀ i j F, Rep Z F (g i j) (G i j))
    (ho : ∀ d e d', op d e = some d' → ∃ i j, d = .int i ∧ e = .int j ∧ P i j ∧ d' = G i j) : OpR X f (rD2 Z op) := by
  intro pins s σ H x y v u Q I rx ry ⟨N, d, e, d', tk, r1, r2, hf, q⟩
  obtain ⟨i, j, rfl, rfl, hp, rfl⟩ := ho _ _ _ hf
  exact h pins s σ H x y v u Q I rx ry ⟨i, j, r1.int_inv, r2.int_inv, hp, q _ H (Same.refl _) (hr _ _ _)⟩
theorem o_int0 {f : Value → Value → Sem Value} {g : Int → Int → V} {G : Int → Int → D} {op : D → D → Option D} (h : OpR X f (rI0 g)) (hr : ∀ i j F, Rep Z F (g i j) (G i j))
    (ho : ∀ d e d', op d e = some d' → ∃ i j, d = .int i ∧ e = .int j ∧ d' = G i j) : OpR X f (rD2 Z op) := by
  intro pins s σ H x y v u Q I rx ry ⟨N, d, e, d', tk, r1, r2, hf, q⟩
  obtain ⟨i, j, rfl, rfl, rfl⟩ := ho _ _ _ hf
  exact h pins s σ H x y v u Q I rx ry ⟨i, j, r1.int_inv, r2.int_inv, q _ H (Same.refl _) (hr _ _ _)⟩
theorem o_sub : OpR X (binaryOp .Sub) (rD2 Z opSub) := o_int0 op_sub (fun _ _ _ => .int _) fun d e d' h => by
  unfold opSub at h
  split at h
  · cases h; exact ⟨_, _, rfl, rfl, rfl⟩
  · cases h
theorem o_mul : OpR X (binaryOp .Mult) (rD2 Z opMul) := o_int (P := CMul) (g := fun i j => .int (i * j)) op_mul (fun _ _ _ => .int _) fun d e d' h => by
  unfold opMul at h
  split at h
  · split at h
    · rename_i hs
      cases h
      refine ⟨_, _, rfl, rfl, ?_, rfl⟩
      simp only [small, Bool.or_eq_true, Bool.and_eq_true, decide_eq_true_eq] at hs
      exact hs
    · cases h
  · cases h
theorem o_mod : OpR X (binaryOp .Mod) (rD2 Z opMod) := o_int (P := fun _ j => 0 < j) (g := fun i j => .int (i % j)) op_mod (fun _ _ _ => .int _) fun d e d' h => by
  unfold opMod at h
  split at h
  · split at h
    · rename_i hs; cases h; exact ⟨_, _, rfl, rfl, hs, rfl⟩
    · cases h
  · cases h
theorem o_div : OpR X (binaryOp .FloorDiv) (rD2 Z opDiv) := o_int (P := CDiv) (g := fun i j => .int (i / j)) op_fdiv (fun _ _ _ => .int _) fun d e d' h => by
  unfold opDiv at h
  split at h
  · split at h
    · rename_i hs; cases h; exact ⟨_, _, rfl, rfl, hs, rfl⟩
    · cases h
  · cases h
theorem o_pow : OpR X (binaryOp .Pow) (rD2 Z opPow) := o_int (P := CPow) (g := fun i j => .int (i ^ j.toNat)) op_pow (fun _ _ _ => .int _) fun d e d' h => by
  unfold opPow at h
  split at h
  · split at h
    · rename_i hs; cases h; exact ⟨_, _, rfl, rfl, ⟨hs.1, by omega, hs.2.2⟩, rfl⟩
    · cases h
  · cases h
theorem o_lt : OpR X (compareOp .Lt) (rD2 Z opLt) := o_int0 op_lt (fun _ _ _ => .bl _) fun d e d' h => by
  unfold opLt at h
  split at h
  · cases h; exact ⟨_, _, rfl, rfl, rfl⟩
  · cases h
theorem o_le : OpR X (compareOp .LtE) (rD2 Z opLe) := o_int0 op_le (fun _ _ _ => .bl _) fun d e d' h => by
  unfold opLe at h
  split at h
  · cases h; exact ⟨_, _, rfl, rfl, rfl⟩
  · cases h
theorem o_gt : OpR X (compareOp .Gt) (rD2 Z opGt) := o_int0 op_gt (fun _ _ _ => .bl _) fun d e d' h => by
  unfold opGt at h
  split at h
  · cases h; exact ⟨_, _, rfl, rfl, rfl⟩
  · cases h
theorem o_ge : OpR X (compareOp .GtE) (rD2 Z opGe) := o_int0 op_ge (fun _ _ _ => .bl _) fun d e d' h => by
  unfold opGe at h
  split at h
  · cases h; exact ⟨_, _, rfl, rfl, rfl⟩
  · cases h
theorem o_neg : UnR X (unaryOp .USub) (rD1 Z opNeg) := by
  intro pins s σ H x v Q I rx ⟨N, d, d', tk, r1, hf, q⟩
  unfold opNeg at hf
  split at hf
  · cases hf
    exact un_neg pins s σ H x v Q I rx ⟨_, r1.int_inv, q _ H (Same.refl _) (.int _)⟩
  · cases hf

/-! ### + of ints and tuples; lists -/
theorem o_add : OpR X (binaryOp .Add) (rD2 Z opAdd) := by
  intro pins s σ H x y v u Q I rx ry ⟨N, d, e, d', tk, r1, r2, hf, q⟩
  unfold opAdd at hf
  split at hf
  · cases hf
    exact op_add pins s σ H x y v u Q I rx ry ⟨_, _, r1.int_inv, r2.int_inv, q _ H (Same.refl _) (.int _)⟩
  · split at hf
    · rename_i hz
      cases hf
      obtain ⟨p, xs, rfl, e1, q1⟩ := r1.tup_inv
      obtain ⟨p2, ys, rfl, e2, q2⟩ := r2.tup_inv
      refine op_catA pins s σ H _ _ v u Q I rx ry ⟨p, p2, xs, ys, rfl, rfl, SqT.of (avoid_le _ _ e1), SqT.of (avoid_le _ _ e2), by rw [q1.length, q2.length]; exact Nat.le_trans hz line1000, fun hx => ?_, fun _ hy => ?_, fun _ _ t ht => ?_⟩
      · subst hx
        cases q1
        exact q _ H (Same.refl _) r2
      · subst hy
        cases q2
        rw [List.append_nil] at q
        exact q _ H (Same.refl _) r1
      · exact q _ _ (same_upd ht) (rep_new (tk.no ht) ht (.tup (q1.append q2)))
    · cases hf
  · cases hf
theorem n_cat : OpR X (binaryOp .Add) (rN2 Z opCat) := by
  intro pins s σ H x y v u Q I rx ry ⟨N, d, e, d', tk, r1, r2, hf, q⟩
  unfold opCat at hf
  split at hf
  · split at hf
    · rename_i hz
      cases hf
      obtain ⟨p, xs, rfl, e1, q1⟩ := r1.lst_inv
      obtain ⟨p2, ys, rfl, e2, q2⟩ := r2.lst_inv
      exact op_cat pins s σ H _ _ v u Q I rx ry ⟨p, p2, xs, ys, rfl, rfl, avoid_le _ _ e1, avoid_le _ _ e2, by rw [q1.length, q2.length]; exact Nat.le_trans hz lineM, fun t ht => q t _ ht (.lst (q1.append q2))⟩
    · cases hf
  · cases hf
theorem o_of_n {f : Value → Value → Sem Value} {op : D → D → Option D} (h : OpR X f (rN2 Z op)) : OpR X f (rD2 Z op) := by
  intro pins s σ H x y v u Q I rx ry ⟨N, d, e, d', tk, r1, r2, hf, q⟩
  exact h pins s σ H x y v u Q I rx ry ⟨N, d, e, d', tk, r1, r2, hf, fun p o hp r => q _ _ (same_upd hp) (rep_new (tk.no hp) hp r)⟩
theorem n_rep : OpR X (binaryOp .Mult) (rN2 Z opRep) := by
  intro pins s σ H x y v u Q I rx ry ⟨N, d, e, d', tk, r1, r2, hf, q⟩
  unfold opRep at hf
  split at hf
  · split at hf
    · rename_i hz
      cases hf
      obtain ⟨p, xs, rfl, e1, q1⟩ := r1.lst_inv
      refine op_rep pins s σ H _ _ v u Q I rx ry ⟨p, _, xs, rfl, r2.int_inv, avoid_le _ _ e1, by omega, by omega, ?_, fun t ht => q t _ ht (.lst (q1.replicate _))⟩
      rw [q1.length]
      refine Nat.le_trans (Nat.mul_le_mul hz.2.2 (show _ ≤ 1000 by omega)) ?_
      exact Nat.le_trans (by decide) lineM
    · cases hf
  · cases hf

/-! ### == over flat data -/
mutual
def toPy : D → PyData
  | .non => .none
  | .bl b => .bool b
  | .int i => .int i
  | .rb b => .str (rbS b)
  | .tup ds => .tuple (toPys ds)
  | .lst ds => .list (toPys ds)
  | .dic _ => .none
  | .ins _ _ => .none
def toPys : List D → List PyData
  | [] => []
  | d :: ds => toPy d :: toPys ds
end
mutual
theorem dp_of {H : Hp} {N : List Addr} {K : PySem.W.Frag} : ∀ (d : D) (v : V), flat d = true → Rep Z (avoid H N) v d → Dp K H v (toPy d)
  | .non, v, h, r => by rw [r.non_inv]; exact .non
  | .int i, v, h, r => by rw [r.int_inv]; exact .int i
  | .tup ds, v, h, r => by
    obtain ⟨p, xs, rfl, e1, q1⟩ := r.tup_inv
    exact .tup (SqT.of (avoid_le _ _ e1)) (dps_of ds xs (by rw [flat] at h; exact h) q1)
  | .lst ds, v, h, r => by
    obtain ⟨p, xs, rfl, e1, q1⟩ := r.lst_inv
    exact .lst (SqL.of (avoid_le _ _ e1)) (dps_of ds xs (by rw [flat] at h; exact h) q1)
  | .bl b, v, h, r => by rw [flat] at h; cases h
  | .rb b, v, h, r => by rw [flat] at h; cases h
  | .dic b, v, h, r => by rw [flat] at h; cases h
  | .ins b _, v, h, r => by rw [flat] at h; cases h
theorem dps_of {H : Hp} {N : List Addr} {K : PySem.W.Frag} : ∀ (ds : List D) (vs : List V), flats ds = true → RepL Z (avoid H N) vs ds → DpAll K H vs (toPys ds)
  | [], _, _, r => by cases r; exact .nil
  | d :: ds, _, h, r => by
    cases r with
    | cons r1 r2 =>
      rw [flats, Bool.and_eq_true] at h
      exact .cons (dp_of d _ h.1 r1) (dps_of ds _ h.2 r2)
end
mutual
theorem eqv_py : ∀ (d e : D), flat d = true → flat e = true → PyData.eqv (toPy d) (toPy e) = eqv d e
  | .non, e, h1, h2 => by cases e <;> first | rfl | (simp [flat] at h2; done) | simp [toPy, PyData.eqv, eqv]
  | .int i, e, h1, h2 => by
    cases e <;> first | (simp [flat] at h2; done) | (simp [toPy, PyData.eqv, eqv]; done) | rfl
  | .tup ds, e, h1, h2 => by
    cases e with
    | tup es =>
      rw [toPy, toPy, PyData.eqv, eqv]
      exact eqvs_py ds es (by rw [flat] at h1; exact h1) (by rw [flat] at h2; exact h2)
    | _ => first | (simp [flat] at h2; done) | (simp [toPy, PyData.eqv, eqv]; done)
  | .lst ds, e, h1, h2 => by
    cases e with
    | lst es =>
      rw [toPy, toPy, PyData.eqv, eqv]
      exact eqvs_py ds es (by rw [flat] at h1; exact h1) (by rw [flat] at h2; exact h2)
    | _ => first | (simp [flat] at h2; done) | (simp [toPy, PyData.eqv, eqv]; done)
  | .bl b, _, h, _ => by rw [flat] at h; cases h
  | .rb b, _, h, _ => by rw [flat] at h; cases h
  | .dic b, _, h, _ => by rw [flat] at h; cases h
  | .ins b _, _, h, _ => by rw [flat] at h; cases h
theorem eqvs_py : ∀ (ds es : List D), flats ds = true → flats es = true → PyData.eqvAll (toPys ds) (toPys es) = eqvs ds es
  | [], [], _, _ => by simp [toPys, PyData.eqvAll, eqvs]
  | [], _ :: _, _, _ => by simp [toPys, PyData.eqvAll, eqvs]
  | _ :: _, [], _, _ => by simp [toPys, PyData.eqvAll, eqvs]
  | d :: ds, e :: es, h1, h2 => by
    rw [flats, Bool.and_eq_true] at h1 h2
    rw [toPys, toPys, PyData.eqvAll, eqvs, eqv_py d e h1.1 h2.1, eqvs_py ds es h1.2 h2.2]
end
mutual
theorem depth_py : ∀ d : D, flat d = true → (toPy d).depth = depth d
  | .non, _ => by simp [toPy, PyData.depth, depth]
  | .int i, _ => by simp [toPy, PyData.depth, depth]
  | .tup ds, h => by rw [toPy, PyData.depth, depth, depths_py ds (by rw [flat] at h; exact h)]
  | .lst ds, h => by rw [toPy, PyData.depth, depth, depths_py ds (by rw [flat] at h; exact h)]
  | .bl b, h => by rw [flat] at h; cases h
  | .rb b, h => by rw [flat] at h; cases h
  | .dic b, h => by rw [flat] at h; cases h
  | .ins b _, h => by rw [flat] at h; cases h
theorem depths_py : ∀ ds : List D, flats ds = true → PyData.depthAll (toPys ds) = depths ds
  | [], _ => by simp [toPys, PyData.depthAll, depths]
  | d :: ds, h => by
    rw [flats, Bool.and_eq_true] at h
    rw [toPys, PyData.depthAll, depths, depth_py d h.1, depths_py ds h.2]
end
mutual
theorem canLay_py : ∀ d : D, flat d = true → (toPy d).canLay0 = true
  | .non, _ => by simp [toPy, PyData.canLay0]
  | .int i, _ => by simp [toPy, PyData.canLay0]
  | .tup ds, h => by rw [toPy, PyData.canLay0]; exact canLays_py ds (by rw [flat] at h; exact h)
  | .lst ds, h => by rw [toPy, PyData.canLay0]; exact canLays_py ds (by rw [flat] at h; exact h)
  | .bl b, h => by rw [flat] at h; cases h
  | .rb b, h => by rw [flat] at h; cases h
  | .dic b, h => by rw [flat] at h; cases h
  | .ins b _, h => by rw [flat] at h; cases h
theorem canLays_py : ∀ ds : List D, flats ds = true → PyData.canLayAll0 (toPys ds) = true
  | [], _ => by simp [toPys, PyData.canLayAll0]
  | d :: ds, h => by
    rw [flats, Bool.and_eq_true] at h
    rw [toPys, PyData.canLayAll0, canLay_py d h.1, canLays_py ds h.2]; rfl
end
theorem shaped_py {d : D} (h : flat d = true) (hd : depth d ≤ 8) : SeqAt.shaped (toPy d) = true := by
  unfold SeqAt.shaped
  rw [canLay_py d h, depth_py d h]
  simp; omega
theorem opNe_inv {d e d' : D} (h : opNe d e = some d') : ∃ k, opEq d e = some (.bl k) ∧ d' = .bl (!k) := by
  unfold opNe at h
  split at h
  · rename_i k hk; cases h; exact ⟨k, hk, rfl⟩
  · cases h
theorem rb_eq (a b : Bool) : decide (V.str (rbS a) = V.str (rbS b)) = decide (a = b) := by cases a <;> cases b <;> decide +kernel
theorem flat_of_eqv {v : V} {d : D} {F : Hp} (r : Rep Z F v d) (h : d = d) : True := trivial
end
end Pd
end
section
set_option Elab.async false
set_option linter.all false
set_option maxRecDepth 100000
set_option maxHeartbeats 4000000
/-! PdOps2: comparisons, subscripts, builtins by data. -/
namespace Pd
open PySem PySem.Spec PyProof.Rows L2

section
variable {Z : Wd} {X : Cx} {e a b c : Expr} {pos : Pos}

theorem o_eq (hu : X.A.units + 64 < cLine) : OpR X (compareOp .Eq) (rD2 Z opEq) := by
  intro pins s σ H x y v u Q I rx ry ⟨N, d, e, d', tk, r1, r2, hf, q⟩
  unfold opEq at hf
  split at hf
  · cases hf
    rename_i i j
    have e1 := r1.bl_inv
    have e2 := r2.bl_inv
    subst e1 e2
    refine op_eq pins s σ H _ _ v u Q I rx ry ⟨rfl, ?_⟩
    have : decide (V.bl i = V.bl j) = decide (i = j) := by cases i <;> cases j <;> rfl
    rw [this]
    exact q _ H (Same.refl _) (.bl _)
  · cases hf
    rename_i i j
    have e1 := r1.rb_inv
    have e2 := r2.rb_inv
    subst e1 e2
    refine op_eq pins s σ H _ _ v u Q I rx ry ⟨rfl, ?_⟩
    rw [rb_eq]
    exact q _ H (Same.refl _) (.bl _)
  · split at hf
    · rename_i hz
      cases hf
      refine op_eqD hu pins s σ H _ _ v u Q I rx ry ⟨_, _, dp_of _ _ hz.1 r1, dp_of _ _ hz.2.1 r2, shaped_py hz.1 hz.2.2.1, shaped_py hz.2.1 hz.2.2.2, ?_⟩
      rw [eqv_py _ _ hz.1 hz.2.1]
      exact q _ H (Same.refl _) (.bl _)
    · cases hf
theorem o_ne (hu : X.A.units + 64 < cLine) : OpR X (compareOp .NotEq) (rD2 Z opNe) := by
  intro pins s σ H x y v u Q I rx ry ⟨N, d, e, d', tk, r1, r2, hf, q⟩
  obtain ⟨k, hf2, rfl⟩ := opNe_inv hf
  clear hf
  have hf := hf2
  clear hf2
  unfold opEq at hf
  split at hf
  · cases hf
    rename_i i j
    have e1 := r1.bl_inv
    have e2 := r2.bl_inv
    subst e1 e2
    refine op_ne pins s σ H _ _ v u Q I rx ry ⟨rfl, ?_⟩
    have : decide (V.bl i = V.bl j) = decide (i = j) := by cases i <;> cases j <;> rfl
    rw [this]
    exact q _ H (Same.refl _) (.bl _)
  · cases hf
    rename_i i j
    have e1 := r1.rb_inv
    have e2 := r2.rb_inv
    subst e1 e2
    refine op_ne pins s σ H _ _ v u Q I rx ry ⟨rfl, ?_⟩
    rw [rb_eq]
    exact q _ H (Same.refl _) (.bl _)
  · split at hf
    · rename_i hz
      cases hf
      refine op_neD hu pins s σ H _ _ v u Q I rx ry ⟨_, _, dp_of _ _ hz.1 r1, dp_of _ _ hz.2.1 r2, shaped_py hz.1 hz.2.2.1, shaped_py hz.2.1 hz.2.2.2, ?_⟩
      rw [eqv_py _ _ hz.1 hz.2.1]
      exact q _ H (Same.refl _) (.bl _)
    · cases hf
theorem any_py (d : D) : ∀ ds : List D, flat d = true → flats ds = true → ((toPys ds).any fun z => PyData.eqv z (toPy d)) = ds.any fun b => eqv b d
  | [], _, _ => rfl
  | x :: xs, h, h2 => by
    rw [flats, Bool.and_eq_true] at h2
    rw [toPys, List.any_cons, List.any_cons, eqv_py x d h2.1 h, any_py d xs h h2.2]
theorem o_notIn (hu : X.A.units + 65 < cLine) : OpR X (compareOp .NotIn) (rD2 Z opNotIn) := by
  intro pins s σ H x y v u Q I rx ry ⟨N, d, e, d', tk, r1, r2, hf, q⟩
  unfold opNotIn at hf
  split at hf
  · split at hf
    · rename_i bs hz
      cases hf
      have hl : flat (.lst bs) = true := by rw [flat]; exact hz.2.1
      refine op_notInD hu pins s σ H _ _ v u Q I rx ry ⟨toPy d, toPys bs, dp_of _ _ hz.1 r1, ?_, shaped_py hz.1 hz.2.2.1, ?_, ?_⟩
      · have := dp_of (K := X.K) _ _ hl r2
        rw [toPy] at this; exact this
      · have : SeqAt.shaped (toPy (.lst bs)) = true := by
          unfold SeqAt.shaped
          rw [canLay_py _ hl, depth_py _ hl, depth]
          have := hz.2.2.2
          simp; omega
        rw [toPy] at this; exact this
      · rw [any_py _ _ hz.1 hz.2.1]
        exact q _ H (Same.refl _) (.bl _)
    · cases hf
  · cases hf
theorem d_isN {j pos'} {ma : E} (h : PE X a (tD Z ma)) : PE X (.Compare a [.Is] [.Constant .none j pos'] pos) (tD Z (e1 opIsN ma)) :=
  PE.imp (pe_cmp (pc_isN h)) fun σ H Q q => by
    obtain ⟨C, L, ρ, d, ρ', s, hm, q⟩ := q
    obtain ⟨x, ρ1, h1, hm⟩ := bnd_inv hm
    obtain ⟨y, h2, e⟩ := lift_inv hm
    cases e
    refine ⟨C, L, ρ, x, _, s, h1, fun v H1 L1 sm s1 r => ?_⟩
    have : Rep Z (Fz C L1 H1) (.bl (decide (v = .non))) d := by
      cases r with
      | non => cases h2; exact .bl _
      | bl b => cases h2; exact .bl _
      | int b => cases h2; exact .bl _
      | rb b => cases h2; exact .bl _
      | ref e r => cases r <;> (cases h2; exact .bl _)
    exact q _ H1 L1 sm s1 this
theorem d_notN {j pos'} {ma : E} (h : PE X a (tD Z ma)) : PE X (.Compare a [.IsNot] [.Constant .none j pos'] pos) (tD Z (e1 opNotN ma)) :=
  PE.imp (pe_cmp (pc_notN h)) fun σ H Q q => by
    obtain ⟨C, L, ρ, d, ρ', s, hm, q⟩ := q
    obtain ⟨x, ρ1, h1, hm⟩ := bnd_inv hm
    obtain ⟨y, h2, e⟩ := lift_inv hm
    cases e
    refine ⟨C, L, ρ, x, _, s, h1, fun v H1 L1 sm s1 r => ?_⟩
    have : Rep Z (Fz C L1 H1) (.bl (!decide (v = .non))) d := by
      cases r with
      | non => cases h2; exact .bl _
      | bl b => cases h2; exact .bl _
      | int b => cases h2; exact .bl _
      | rb b => cases h2; exact .bl _
      | ref e r => cases r <;> (cases h2; exact .bl _)
    exact q _ H1 L1 sm s1 this
theorem o_isB : OpR X (compareOp .Is) (rD2 Z opIsB) := by
  intro pins s σ H x y v u Q I rx ry ⟨N, d, e, d', tk, r1, r2, hf, q⟩
  unfold opIsB at hf
  split at hf
  · cases hf
    exact op_isBl pins s σ H _ _ v u Q I rx ry ⟨_, _, r1.bl_inv, r2.bl_inv, q _ H (Same.refl _) (.bl _)⟩
  · cases hf
theorem o_notB : OpR X (compareOp .IsNot) (rD2 Z opNotB) := by
  intro pins s σ H x y v u Q I rx ry ⟨N, d, e, d', tk, r1, r2, hf, q⟩
  unfold opNotB at hf
  split at hf
  · cases hf
    exact op_notBl pins s σ H _ _ v u Q I rx ry ⟨_, _, r1.bl_inv, r2.bl_inv, q _ H (Same.refl _) (.bl _)⟩
  · cases hf

/-! ### subscripts -/
theorem at_rep {F : Hp} {vs : List V} {ds : List D} {i : Int} {d : D} (r : RepL Z F vs ds) (h : atD ds i = some d) : ∃ v, atI vs i = some v ∧ Rep Z F v d := by
  unfold atD at h
  unfold atI ixN
  have hl := r.length
  by_cases h0 : 0 ≤ i
  · rw [if_pos h0] at h
    obtain ⟨v, h1, r1⟩ := r.get h
    have : i.toNat < vs.length := (List.getElem?_eq_some_iff.mp h1).1
    rw [if_pos h0, if_pos (by omega)]
    exact ⟨v, h1, r1⟩
  · rw [if_neg h0] at h
    by_cases h2 : 0 ≤ i + ds.length
    · rw [if_pos h2] at h
      obtain ⟨v, h1, r1⟩ := r.get h
      rw [if_neg h0, if_pos (by omega)]
      refine ⟨v, ?_, r1⟩
      show vs[(i + (vs.length : Int)).toNat]? = some v
      rw [hl]; exact h1
    · rw [if_neg h2] at h; cases h
theorem cut_len (n d : Nat) (o : Option Int) : cutIx n d o = HT.sIx n d o := by
  cases o with
  | none => rfl
  | some i =>
    show (if 0 ≤ i then min i.toNat n else (i + (n : Int)).toNat) = if i < 0 then (i + (n : Int)).toNat else min i.toNat n
    by_cases h : 0 ≤ i
    · rw [if_pos h, if_neg (by omega)]
    · rw [if_neg h, if_pos (by omega)]
theorem cut_rep {F : Hp} {vs : List V} {ds : List D} {lo hi : Option Int} (r : RepL Z F vs ds) : RepL Z F (cutV vs lo hi) (cutD ds lo hi) := by
  unfold cutV cutD
  rw [cut_len, cut_len, ← r.length]
  exact (r.drop _).take _
/-! ### slices -/
variable {p2 : Pos}
def tDO (Z : Wd) (m : M (Option Int)) : TO := fun σ H Q => ∃ (C : Cn) (L : List Addr) (ρ : Env) (o : Option Int) (ρ' : Env), SOk Z C L σ H ρ ∧ m ρ = some (o, ρ') ∧ ∀ (H' : Hp) (L' : List Addr), Same (Fz C L H) (Fz C L' H') → SOk Z C L' σ H' ρ' → Q o H'
def part : Option E → M (Option Int)
  | none => Pd.ret none
  | some l => bnd l fun y => Pd.lift ((int? y).map some)
theorem PO.imp {o : Option Expr} {t t' : TO} (h : PO X o t) (i : ∀ σ H Q, t' σ H Q → t σ H Q) : PO X o t' := ⟨fun pins s σ H Q I q => h.run pins s σ H Q I (i _ _ _ q)⟩
theorem dp_none : PO X none (tDO Z (part none)) := PO.imp po_none fun σ H Q ⟨C, L, ρ, o, ρ', s, hm, q⟩ => by
  cases hm
  exact q H L (Same.refl _) s
theorem dp_some {ma : E} (h : PE X e (tD Z ma)) : PO X (some e) (tDO Z (part (some ma))) := PO.imp (po_some h) fun σ H Q ⟨C, L, ρ, o, ρ', s, hm, q⟩ => by
  obtain ⟨x, ρ1, h1, hm⟩ := bnd_inv hm
  obtain ⟨y, h2, e⟩ := lift_inv hm
  cases e
  cases x with
  | int i =>
    cases h2
    exact ⟨C, L, ρ, .int i, _, s, h1, fun v H1 L1 sm s1 r => ⟨i, r.int_inv, q H1 L1 sm s1⟩⟩
  | _ => cases h2
theorem eCut_eq (a : E) (lo hi : Option E) : eCut a lo hi = bnd a fun x => bnd (part lo) fun i => bnd (part hi) fun j => match x with
    | .tup ds => Pd.ret (.tup (cutD ds i j))
    | .lst ds => Pd.ret (.lst (cutD ds i j))
    | _ => Pd.fail := by
  unfold eCut part
  cases lo <;> cases hi <;> rfl
theorem d_cut {ma : E} {ml mh : Option E} {lo hi : Option Expr} (ha : PE X a (tD Z ma)) (hl : PO X lo (tDO Z (part ml))) (hh : PO X hi (tDO Z (part mh))) : PE X (.Subscript a (.Slice lo hi none p2) pos) (tD Z (eCut ma ml mh)) := by
  refine PE.imp (pe_slice (SlR.or sl_list sl_tupA) ha hl hh) fun σ H Q ⟨C, L, ρ, d, ρ', s, hm, q⟩ => ?_
  rw [eCut_eq] at hm
  obtain ⟨x, ρ1, h1, hm⟩ := bnd_inv hm
  obtain ⟨i, ρ2, h2, hm⟩ := bnd_inv hm
  obtain ⟨j, ρ3, h3, hm⟩ := bnd_inv hm
  refine ⟨C, L, ρ, x, ρ1, s, h1, fun v1 H1 L1 sm1 s1 r1 => ⟨C, L1, ρ1, i, ρ2, s1, h2, fun H2 L2 sm2 s2 => ⟨C, L2, ρ2, j, ρ3, s2, h3, fun H3 L3 sm3 s3 => ?_⟩⟩⟩
  have r3 := r1.mono (sm2.trans sm3)
  have smT := sm1.trans (sm2.trans sm3)
  cases x with
  | lst ds =>
    cases hm
    obtain ⟨p, xs, rfl, e1, q1⟩ := r3.lst_inv
    refine .inl ⟨p, xs, rfl, SqL.of (avoid_le _ _ e1), fun t ht => ?_⟩
    exact q _ _ L3 (smT.trans (Fz_ext (same_upd ht))) (s3.ext (same_upd ht)) (rep_new (s3.fresh ht) ht (.lst (cut_rep q1)))
  | tup ds =>
    cases hm
    obtain ⟨p, xs, rfl, e1, q1⟩ := r3.tup_inv
    refine .inr ⟨p, xs, rfl, SqT.of (avoid_le _ _ e1), fun hw => ?_, fun hw t ht => ?_⟩
    · have e2 : cutD ds i j = ds := by
        unfold cutD
        rw [cut_len, cut_len, ← q1.length, hw.1, hw.2, List.drop_zero, Nat.sub_zero, q1.length, List.take_length]
      rw [e2] at q
      exact q _ H3 L3 smT s3 r3
    · exact q _ _ L3 (smT.trans (Fz_ext (same_upd ht))) (s3.ext (same_upd ht)) (rep_new (s3.fresh ht) ht (.tup (cut_rep q1)))
  | _ => cases hm

/-! ### builtins by name -/
variable {x id T : String} {es : List Expr}
theorem call_go {f : List D → Option D} {ms : List E} {σ : St} {H : Hp} {Q : VK} (h : tD Z (eCall f ms) σ H Q) : tDs Z (args ms) σ H fun vs H1 => rDs Z f vs H1 Q := by
  obtain ⟨C, L, ρ, d, ρ', s, hm, q⟩ := h
  obtain ⟨xs, ρ1, h1, hm⟩ := bnd_inv hm
  obtain ⟨y, h2, e⟩ := lift_inv hm
  cases e
  exact ⟨C, L, ρ, xs, _, s, h1, fun vs H1 L1 sm s1 r => ⟨L1 ++ C.N, xs, d, s1.trk, r, h2, fun v' H' sm' r' => q v' H' L1 (sm.trans (Fz_ext sm')) (s1.ext sm') r'⟩⟩
theorem d_callB {x : Str} {p : Pos} {f : List D → Option D} {ms : List E} (hc : CallR X (.builtin id) (rDs Z f)) (hg : Gl X x) (hm : X.mg x = none) (hv : bootBuiltins x = some (.builtin id)) (ha : PA X (e :: es) (tDs Z (args ms))) (hn : x ≠ "__name__" := by decide) (hdb : (x == ("__debug__" : Str)) = false := by decide)
    (he : starEach (e :: es) X.env = (false, eval e X.env) :: starEach es X.env := by rfl) (hpl : (backTo pos (starEach es X.env)).any (·.1) = false := by rfl) : PE X (.Call (.Name x p) (e :: es) [] pos) (tD Z (eCall f ms)) :=
  PE.imp (pe_callB hc hg hm hv ha hn hdb he hpl) fun _ _ _ h => call_go h
theorem d_callTy {x : Str} {p : Pos} {f : List D → Option D} {ms : List E} (hc : CallR X (.type T) (rDs Z f)) (hg : Gl X x) (hm : X.mg x = none) (hv : bootBuiltins x = some (.type T)) (ha : PA X (e :: es) (tDs Z (args ms))) (hn : x ≠ "__name__" := by decide) (hdb : (x == ("__debug__" : Str)) = false := by decide)
    (he : starEach (e :: es) X.env = (false, eval e X.env) :: starEach es X.env := by rfl) (hpl : (backTo pos (starEach es X.env)).any (·.1) = false := by rfl) : PE X (.Call (.Name x p) (e :: es) [] pos) (tD Z (eCall f ms)) :=
  PE.imp (pe_callTy hc hg hm hv ha hn hdb he hpl) fun _ _ _ h => call_go h
/-- a builtin that the module has imported -/
theorem d_callF {x : Str} {p : Pos} {f : List D → Option D} {ms : List E} (hc : CallR X (.builtin id) (rDs Z f)) (hg : Gl X x) (hm : X.mg x = some (.builtin id)) (ha : PA X (e :: es) (tDs Z (args ms))) (hdb : (x == ("__debug__" : Str)) = false := by decide)
    (he : starEach (e :: es) X.env = (false, eval e X.env) :: starEach es X.env := by rfl) (hpl : (backTo pos (starEach es X.env)).any (·.1) = false := by rfl) : PE X (.Call (.Name x p) (e :: es) [] pos) (tD Z (eCall f ms)) :=
  PE.imp (pe_callBfun hc hg hm ha hdb he hpl) fun _ _ _ h => call_go h
theorem a1_inv {f : D → Option D} {ds : List D} {d : D} (h : a1 f ds = some d) : ∃ x, ds = [x] ∧ f x = some d := by
  unfold a1 at h
  split at h
  · exact ⟨_, rfl, h⟩
  · cases h
theorem a2_inv {f : D → D → Option D} {ds : List D} {d : D} (h : a2 f ds = some d) : ∃ x y, ds = [x, y] ∧ f x y = some d := by
  unfold a2 at h
  split at h
  · exact ⟨_, _, rfl, h⟩
  · cases h
theorem RepL.one {F : Hp} {vs : List V} {d : D} (r : RepL Z F vs [d]) : ∃ v, vs = [v] ∧ Rep Z F v d := by
  cases r with
  | cons r t => cases t; exact ⟨_, rfl, r⟩
theorem RepL.two {F : Hp} {vs : List V} {d e : D} (r : RepL Z F vs [d, e]) : ∃ v w, vs = [v, w] ∧ Rep Z F v d ∧ Rep Z F w e := by
  cases r with
  | cons r t =>
    cases t with
    | cons r' t => cases t; exact ⟨_, _, rfl, r, r'⟩
/-- a builtin of one argument -/
theorem c1 {f : Value} {r : List V → Hp → VK → Prop} {op : D → Option D} (h : CallR X f r) (i : ∀ H N v d d' Q, Tk H N → Rep Z (avoid H N) v d → op d = some d' → (∀ v' H', Same H H' → Rep Z (avoid H' N) v' d' → Q v' H') → r [v] H Q) : CallR X f (rDs Z (a1 op)) := by
  intro pins s σ H xs us Q I rx ⟨N, ds, d', tk, r1, hf, q⟩
  obtain ⟨d, rfl, hf⟩ := a1_inv hf
  obtain ⟨v, rfl, r2⟩ := r1.one
  exact h pins s σ H _ us Q I rx (i H N v d d' Q tk r2 hf q)
theorem c2 {f : Value} {r : List V → Hp → VK → Prop} {op : D → D → Option D} (h : CallR X f r) (i : ∀ H N v w d e d' Q, Tk H N → Rep Z (avoid H N) v d → Rep Z (avoid H N) w e → op d e = some d' → (∀ v' H', Same H H' → Rep Z (avoid H' N) v' d' → Q v' H') → r [v, w] H Q) : CallR X f (rDs Z (a2 op)) := by
  intro pins s σ H xs us Q I rx ⟨N, ds, d', tk, r1, hf, q⟩
  obtain ⟨d, e, rfl, hf⟩ := a2_inv hf
  obtain ⟨v, w, rfl, r2, r3⟩ := r1.two
  exact h pins s σ H _ us Q I rx (i H N v w d e d' Q tk r2 r3 hf q)
theorem c_len : CallR X (.builtin "len") (rDs Z (a1 opLen)) := c1 call_len_seq fun H N v d d' Q tk r hf q => by
  unfold opLen at hf
  split at hf
  · cases hf
    obtain ⟨p, xs, rfl, e1, q1⟩ := r.tup_inv
    exact ⟨p, xs, rfl, .inr (SqT.of (avoid_le _ _ e1)), by rw [q1.length]; exact q _ H (Same.refl _) (.int _)⟩
  · cases hf
    obtain ⟨p, xs, rfl, e1, q1⟩ := r.lst_inv
    exact ⟨p, xs, rfl, .inl (SqL.of (avoid_le _ _ e1)), by rw [q1.length]; exact q _ H (Same.refl _) (.int _)⟩
  · cases hf
theorem map_some {α β : Type} {f : α → β} {o : Option α} {b : β} (h : o.map f = some b) : ∃ a, o = some a ∧ b = f a := by
  cases o with
  | none => cases h
  | some a => exact ⟨a, rfl, (Option.some.inj h).symm⟩
theorem c_all (hc : X.calm = true) : CallR X (.builtin "all") (rDs Z (a1 opAll)) := c1 (cr_all hc) fun H N v d d' Q tk r hf q => by
  unfold opAll at hf
  split at hf
  · obtain ⟨bs, e, rfl⟩ := map_some hf
    obtain ⟨p, xs, rfl, e1, q1⟩ := r.lst_inv
    have e2 := q1.mapM_bl e
    subst e2
    exact ⟨p, bs, rfl, SqL.of (avoid_le _ _ e1), q _ H (Same.refl _) (.bl _)⟩
  · cases hf
theorem c_sum (hc : X.calm = true) : CallR X (.builtin "sum") (rDs Z (a1 opSum)) := c1 (cr_sum hc) fun H N v d d' Q tk r hf q => by
  unfold opSum at hf
  split at hf
  · obtain ⟨bs, e, rfl⟩ := map_some hf
    obtain ⟨p, xs, rfl, e1, q1⟩ := r.lst_inv
    have e2 := q1.mapM_int e
    subst e2
    exact ⟨p, bs, rfl, SqL.of (avoid_le _ _ e1), q _ H (Same.refl _) (.int _)⟩
  · cases hf
theorem foldl_min (is : List Int) : ∀ m : Int, (is.foldl (fun m j => if j < m then j else m) m = m ∨ is.foldl (fun m j => if j < m then j else m) m ∈ is) ∧ is.foldl (fun m j => if j < m then j else m) m ≤ m ∧ ∀ j ∈ is, is.foldl (fun m j => if j < m then j else m) m ≤ j := by
  induction is with
  | nil => intro m; exact ⟨.inl rfl, Int.le_refl _, fun _ h => nomatch h⟩
  | cons i is ih =>
    intro m
    rw [List.foldl_cons]
    obtain ⟨h1, h2, h3⟩ := ih (if i < m then i else m)
    by_cases hi : i < m
    · rw [if_pos hi] at h1 h2 h3 ⊢
      refine ⟨.inr ?_, by omega, fun j hj => ?_⟩
      · rcases h1 with h1 | h1
        · rw [h1]; exact List.mem_cons_self
        · exact List.mem_cons_of_mem _ h1
      · rcases List.mem_cons.mp hj with rfl | hj
        · exact h2
        · exact h3 j hj
    · rw [if_neg hi] at h1 h2 h3 ⊢
      refine ⟨?_, h2, fun j hj => ?_⟩
      · rcases h1 with h1 | h1
        · exact .inl h1
        · exact .inr (List.mem_cons_of_mem _ h1)
      · rcases List.mem_cons.mp hj with rfl | hj
        · omega
        · exact h3 j hj
theorem c_min (hc : X.calm = true) : CallR X (.builtin "min") (rDs Z (a1 opMin)) := c1 (cr_min hc) fun H N v d d' Q tk r hf q => by
  unfold opMin at hf
  split at hf
  · split at hf
    · rename_i i is e
      cases hf
      obtain ⟨p, xs, rfl, e1, q1⟩ := r.lst_inv
      have e2 := q1.mapM_int e
      subst e2
      refine ⟨p, i :: is, rfl, SqL.of (avoid_le _ _ e1), Nat.succ_pos _, fun m hm hle => ?_⟩
      obtain ⟨h1, h2, h3⟩ := foldl_min is i
      have em : m = minI i is := by
        have a1 : m ≤ minI i is := by
          rcases h1 with h1 | h1
          · show m ≤ is.foldl _ i
            rw [h1]; exact hle i List.mem_cons_self
          · exact hle _ (List.mem_cons_of_mem _ h1)
        have a2 : minI i is ≤ m := by
          rcases List.mem_cons.mp hm with rfl | hm
          · exact h2
          · exact h3 m hm
        omega
      rw [em]
      exact q _ H (Same.refl _) (.int _)
    · cases hf
  · cases hf
theorem c_abs : CallR X (.builtin "abs") (rDs Z (a1 opAbs)) := c1 call_abs fun H N v d d' Q tk r hf q => by
  unfold opAbs at hf
  split at hf
  · cases hf; rw [r.int_inv]; exact ⟨_, rfl, q _ H (Same.refl _) (.int _)⟩
  · cases hf
theorem c_max2 (hc : X.calm = true) : CallR X (.builtin "max") (rDs Z (a2 opMax2)) := c2 (call_max2 hc) fun H N v w d e d' Q tk r r2 hf q => by
  unfold opMax2 at hf
  split at hf
  · cases hf; rw [r.int_inv, r2.int_inv]; exact ⟨_, _, rfl, q _ H (Same.refl _) (.int _)⟩
  · cases hf
theorem c_int : CallR X (.type "int") (rDs Z (a1 opInt)) := c1 call_int1 fun H N v d d' Q tk r hf q => by
  unfold opInt at hf
  split at hf
  · cases hf; rw [r.int_inv]; exact .inl ⟨_, rfl, q _ H (Same.refl _) (.int _)⟩
  · cases hf; rw [r.bl_inv]; exact .inr ⟨_, rfl, q _ H (Same.refl _) (.int _)⟩
  · cases hf
theorem call_repr_bool : CallR X (.builtin "repr") (fun xs H Q => ∃ b, xs = [.bl b] ∧ Q (.str (rbS b)) H) := by
  intro pins s σ H xs us Q I r h
  obtain ⟨b, rfl, q⟩ := h
  obtain ⟨u, rfl, rfl⟩ := vals1 r
  exact PySem.P.repr_of_bool ⟨.str _, H, I.tok _, ⟨_, rfl⟩, q⟩
theorem c_repr : CallR X (.builtin "repr") (rDs Z (a1 opRepr)) := c1 call_repr_bool fun H N v d d' Q tk r hf q => by
  unfold opRepr at hf
  split at hf
  · cases hf; rw [r.bl_inv]; exact ⟨_, rfl, q _ H (Same.refl _) (.rb _)⟩
  · cases hf
theorem c_tuple : CallR X (.type "tuple") (rDs Z (a1 opTuple)) := c1 call_tuple_of fun H N v d d' Q tk r hf q => by
  unfold opTuple at hf
  split at hf
  · cases hf
    obtain ⟨p, xs, rfl, e1, q1⟩ := r.lst_inv
    exact ⟨p, xs, rfl, .inl ⟨SqL.of (avoid_le _ _ e1), fun l hl => q _ _ (same_upd hl) (rep_new (tk.no hl) hl (.tup q1))⟩⟩
  · cases hf
theorem c_gcd : CallR X (.builtin "math.gcd") (rDs Z (a2 opGcd)) := c2 cr_gcd fun H N v w d e d' Q tk r r2 hf q => by
  unfold opGcd at hf
  split at hf
  · cases hf; rw [r.int_inv, r2.int_inv]; exact ⟨_, _, rfl, q _ H (Same.refl _) (.int _)⟩
  · cases hf
theorem call_lcm : CallR X (.builtin "math.lcm") (fun xs H Q => ∃ a b : Int, xs = [.int a, .int b] ∧ a.natAbs < 2 ^ 64 ∧ b.natAbs < 2 ^ 64 ∧ Q (.int ((Nat.lcm a.natAbs b.natAbs : Nat) : Int)) H) := by
  intro pins s σ H xs us Q I r h
  obtain ⟨a, b, rfl, ha, hb, q⟩ := h
  obtain ⟨u, w, rfl, ⟨t, rfl⟩, ⟨t', rfl⟩⟩ := vals2 r
  exact PySem.W.mc_lcm ha hb fun _ => ⟨.int _, H, I.tok _, ⟨_, rfl⟩, q⟩
theorem c_lcm : CallR X (.builtin "math.lcm") (rDs Z (a2 opLcm)) := c2 call_lcm fun H N v w d e d' Q tk r r2 hf q => by
  unfold opLcm at hf
  split at hf
  · split at hf
    · rename_i hz
      cases hf; rw [r.int_inv, r2.int_inv]; exact ⟨_, _, rfl, hz.1, hz.2, q _ H (Same.refl _) (.int _)⟩
    · cases hf
  · cases hf
theorem c_divmod : CallR X (.builtin "divmod") (rDs Z (a2 opDivmod)) := c2 call_divmod fun H N v w d e d' Q tk r r2 hf q => by
  unfold opDivmod at hf
  split at hf
  · split at hf
    · rename_i hz
      cases hf; rw [r.int_inv, r2.int_inv]
      exact ⟨_, _, rfl, hz, fun p hp => q _ _ (same_upd hp) (rep_new (tk.no hp) hp (.tup (.cons (.int _) (.cons (.int _) .nil))))⟩
    · cases hf
  · cases hf
end
end Pd
end
section
set_option Elab.async false
set_option linter.all false
set_option maxRecDepth 100000
set_option maxHeartbeats 4000000
/-! PdCall: defs by their pure functions: promises, calls, instances, fields. -/
namespace Pd
open PySem PySem.Spec PyProof.Rows L2

/-- a pure def's promise -/
def spF (Z : Wd) (n : Nat) (g : List D → Option D) : Sp := fun vs H Q _ => vs.length = n ∧ ∃ (N : List Addr) (ds : List D) (r : D), Tk H N ∧ RepL Z (avoid H N) vs ds ∧ g ds = some r ∧ ∀ v H', Same H H' → Rep Z (avoid H' N) v r → Q v H'
/-- of a def that turns its first argument -/
def spO (Z : Wd) (n : Nat) (g : D → List D → Option (D × D)) : Sp := fun vs H Q _ => vs.length = n ∧ ∃ (p : Addr) (vs' : List V) (N : List Addr) (o : HO) (d : D) (ds : List D) (r d' : D), vs = .ref p :: vs' ∧ Tk H N ∧ p ∉ N ∧ H p = some o ∧ RepO Z (avoid H (p :: N)) p o d ∧
  RepL Z (avoid H (p :: N)) vs' ds ∧ g d ds = some (r, d') ∧ ∀ v H' o', (∀ a u, a ≠ p → H a = some u → H' a = some u) → H' p = some o' → RepO Z (avoid H' (p :: N)) p o' d' → Rep Z (avoid H' (p :: N)) v r → Q v H'

section
variable {Z : Wd}
theorem envOf_get {n : Nat} {ds : List D} {k : Nat} {d : D} : (envOf n ds)[k]? = some (.i d) → ds[k]? = some d := fun h => by
  unfold envOf at h
  by_cases hk : k < ds.length
  · rw [List.getElem?_append_left (by rw [List.length_map]; exact hk), List.getElem?_map] at h
    cases e : ds[k]? with
    | none => rw [e] at h; cases h
    | some x => rw [e] at h; cases h; rfl
  · rw [List.getElem?_append_right (by rw [List.length_map]; omega)] at h
    have := List.mem_of_getElem? h
    rw [List.mem_replicate] at this
    cases this.2
theorem envOf_noo {n : Nat} {ds : List D} {k : Nat} {d : D} : (envOf n ds)[k]? ≠ some (.o d) := fun h => by
  have := List.mem_of_getElem? h
  unfold envOf at this
  rcases List.mem_append.mp this with z | z
  · obtain ⟨x, _, e⟩ := List.mem_map.mp z; cases e
  · cases (List.mem_replicate.mp z).2
theorem start_get {N : List Str} {vs : List V} {k : Nat} {v : V} (h : vs[k]? = some v) : (L2.start N vs)[k]? = some (some v) := by
  have hk := (List.getElem?_eq_some_iff.mp h).1
  unfold L2.start
  rw [List.getElem?_append_left (by rw [List.length_map]; exact hk), List.getElem?_map, h]
  rfl
theorem start_len {N : List Str} {vs : List V} (h : vs.length ≤ N.length) : (L2.start N vs).length = N.length := by
  unfold L2.start
  rw [List.length_append, List.length_map, List.length_replicate]
  omega
theorem envOf_len {n : Nat} {ds : List D} (h : ds.length ≤ n) : (envOf n ds).length = n := by
  unfold envOf
  rw [List.length_append, List.length_map, List.length_replicate]
  omega
theorem sok_pure {H : Hp} {N : List Addr} {vs : List V} {ds : List D} {nm : List Str} (tk : Tk H N) (r : RepL Z (avoid H N) vs ds) (hl : vs.length ≤ nm.length) : SOk Z ⟨H, [], N, none⟩ [] (L2.start nm vs) H (envOf nm.length ds) := by
  refine ⟨fun _ _ _ e => e, fun _ h => (nomatch h), fun _ h => (nomatch h), tk, ?_, fun k d h => ?_, fun k d h => absurd h envOf_noo, fun j k d e h _ _ => absurd h envOf_noo, fun _ _ h => (nomatch h)⟩
  · rw [start_len hl, envOf_len (by rw [← r.length]; exact hl)]
  · obtain ⟨v, h1, r1⟩ := r.get (envOf_get h)
    exact ⟨v, start_get h1, r1⟩
theorem sok_own {H : Hp} {N : List Addr} {p : Addr} {vs : List V} {o : HO} {d : D} {ds : List D} {nm : List Str} (tk : Tk H N) (hp : p ∉ N) (e : H p = some o) (r0 : RepO Z (avoid H (p :: N)) p o d) (r : RepL Z (avoid H (p :: N)) vs ds) (hl : vs.length + 1 ≤ nm.length) :
    SOk Z ⟨H, [p], N, some p⟩ [p] (L2.start nm (.ref p :: vs)) H (envOfO nm.length d ds) := by
  have l1 := r.length
  have key : ∀ {k : Nat} {x : Sl}, (envOfO nm.length d ds)[k + 1]? = some x → (envOf (nm.length - 1) ds)[k]? = some x := fun {k x} h => h
  refine ⟨fun _ _ _ e => e, fun l h => .inl h, fun l h => by rw [List.mem_singleton.mp h]; exact hp, fun n h => ?_, ?_, fun k d' h => ?_, fun k d' h => ?_, fun j k d' e' h h' _ => ?_, fun a d' ha h => ?_⟩
  · rcases List.mem_append.mp h with z | z
    · rw [List.mem_singleton.mp z, e]; exact fun z => nomatch z
    · exact tk n z
  · rw [start_len (by rw [List.length_cons]; exact hl)]
    unfold envOfO
    rw [List.length_cons, List.length_append, List.length_map, List.length_replicate]
    omega
  · cases k with
    | zero => cases h
    | succ k =>
      obtain ⟨v, h1, r1⟩ := r.get (envOf_get (key h))
      exact ⟨v, start_get (vs := .ref p :: vs) (k := k + 1) (by simpa using h1), r1⟩
  · cases k with
    | zero =>
      cases h
      exact ⟨p, o, start_get rfl, List.mem_cons_self, e, r0⟩
    | succ k => exact absurd (key h) envOf_noo
  · cases j with
    | succ j => exact absurd (key h) envOf_noo
    | zero => cases k with
      | zero => rfl
      | succ k => exact absurd (key h') envOf_noo
  · cases ha
    exact start_get rfl

variable {x qual : Str} {params : Arguments} {body : List Stmt} {scope : Scope} {dvs : List V} {kws : List (Str × V)} {f : Addr} {fd : FuncData} {N ps : List Str} {k : Nat} {m : S}
/-- a pure def keeps its promise -/
theorem fn_pure (F : FunD Z.K x qual params body scope dvs kws f fd) (S : FnScope N ps scope)
    (hb : ∀ (cdv : Value) (A : Around) (outer : List PySem.Env) (s : Shared) (H : Hp) (E : XK), Room k (A.deeper (envOfC qual scope s.heap.objs.size f cdv)) → PSs (cxOf CX0 Z.P Z.w Z.K Z.mg Z.base N qual scope f cdv A outer s H E).nox body (tDS Z m)) :
    FnOk Z.P Z.w Z.K Z.mg Z.base CX0 (k + 1) f fd ps (spF Z ps.length (run m N.length ps.length)) := by
  have hpl : ps.length ≤ N.length := by have := congrArg List.length S.pre; rw [List.length_take] at this; omega
  refine F.ok S (fun vs H Q E h => h.1) fun cdv A outer s H vs Q E hr h => ⟨_, PSs.nox (hb cdv A outer s H E hr), ?_⟩
  obtain ⟨hl, M, ds, r, tk, rs, hg, q⟩ := h
  have so := sok_pure (nm := N) tk rs (by omega)
  unfold run at hg
  by_cases hd : ds.length = ps.length
  · rw [if_pos hd] at hg
    cases e : m (envOf N.length ds) with
    | none => rw [e] at hg; cases hg
    | some c =>
      obtain ⟨c, ρ'⟩ := c
      rw [e] at hg
      have sm : ∀ {σ' : St} {H' : Hp} {L' : List Addr} {ρ' : Env}, SOk Z ⟨H, [], M, none⟩ L' σ' H' ρ' → Same H H' := fun s' a u z => s'.kept a u (fun y => nomatch y) z
      refine ⟨⟨H, [], M, none⟩, [], envOf N.length ds, c, ρ', so, e, fun ec σ' H' L' _ s' => ?_, fun d ec v σ' H' L' _ s' r' => ?_⟩
      · subst ec
        cases hg
        exact q .non H' (sm s') .non
      · subst ec
        cases hg
        exact q v H' (sm s') (r'.mono (avoid_sub fun b hb => List.mem_append_right _ hb))
  · rw [if_neg hd] at hg; cases hg
/-- a def that turns its first argument keeps its promise -/
theorem fn_own (F : FunD Z.K x qual params body scope dvs kws f fd) (S : FnScope N ps scope)
    (hb : ∀ (cdv : Value) (A : Around) (outer : List PySem.Env) (s : Shared) (H : Hp) (E : XK), Room k (A.deeper (envOfC qual scope s.heap.objs.size f cdv)) → PSs (cxOf CX0 Z.P Z.w Z.K Z.mg Z.base N qual scope f cdv A outer s H E).nox body (tDS Z m)) :
    FnOk Z.P Z.w Z.K Z.mg Z.base CX0 (k + 1) f fd ps (spO Z ps.length (runO m N.length ps.length)) := by
  have hpl : ps.length ≤ N.length := by have := congrArg List.length S.pre; rw [List.length_take] at this; omega
  refine F.ok S (fun vs H Q E h => h.1) fun cdv A outer s H vs Q E hr h => ⟨_, PSs.nox (hb cdv A outer s H E hr), ?_⟩
  obtain ⟨hl, p, vs, M, o, d, ds, r, d', rfl, tk, hp, ep, r0, rs, hg, q⟩ := h
  have so := sok_own (nm := N) tk hp ep r0 rs (by rw [List.length_cons] at hl; omega)
  unfold runO at hg
  by_cases hd : ds.length + 1 = ps.length
  · rw [if_pos hd] at hg
    cases e : m (envOfO N.length d ds) with
    | none => rw [e] at hg; cases hg
    | some c =>
      obtain ⟨c, ρ'⟩ := c
      rw [e] at hg
      have sm : ∀ {σ' : St} {H' : Hp} {L' : List Addr} {ρ' : Env}, SOk Z ⟨H, [p], M, some p⟩ L' σ' H' ρ' → ∀ a u, a ≠ p → H a = some u → H' a = some u := fun s' a u ne z => s'.kept a u (fun y => ne (List.mem_singleton.mp y)) z
      -- slot 0 stays the owner
      have fin : ∀ (d1 : D) (ρ1 : Env), ρ' = .o d1 :: ρ1 → ∀ {σ' : St} {H' : Hp} {L' : List Addr}, SOk Z ⟨H, [p], M, some p⟩ L' σ' H' ρ' → p ∈ L' ∧ ∃ o', H' p = some o' ∧ RepO Z (avoid H' (p :: M)) p o' d1 := fun d1 ρ1 eρ {σ' H' L'} s' => by
        subst eρ
        obtain ⟨l, o', h1, h2, h3, h4⟩ := s'.own 0 d1 rfl
        have := s'.p0 p d1 rfl rfl
        rw [h1] at this
        cases this
        refine ⟨h2, o', h3, h4.mono (avoid_sub fun b hb => ?_)⟩
        rcases List.mem_cons.mp hb with z | z
        · rw [z]; exact List.mem_append_left _ h2
        · exact List.mem_append_right _ z
      refine ⟨⟨H, [p], M, some p⟩, [p], _, c, ρ', so, e, fun ec σ' H' L' _ s' => ?_, fun d2 ec v σ' H' L' _ s' r' => ?_⟩
      · subst ec
        cases ρ' with
        | nil => cases hg
        | cons x0 ρ' =>
          cases x0 with
          | u => cases hg
          | i _ => cases hg
          | o d1 =>
            cases hg
            obtain ⟨h2, o', h3, h4⟩ := fin _ _ rfl s'
            exact q .non H' o' (sm s') h3 h4 .non
      · subst ec
        cases ρ' with
        | nil => cases hg
        | cons x0 ρ' =>
          cases x0 with
          | u => cases hg
          | i _ => cases hg
          | o d1 =>
            cases hg
            obtain ⟨h2, o', h3, h4⟩ := fin _ _ rfl s'
            refine q v H' o' (sm s') h3 h4 (r'.mono (avoid_sub fun b hb => ?_))
            rcases List.mem_cons.mp hb with z | z
            · rw [z]; exact List.mem_append_left _ h2
            · exact List.mem_append_right _ z
  · rw [if_neg hd] at hg; cases hg
end
end Pd
end
section
set_option Elab.async false
set_option linter.all false
set_option maxRecDepth 100000
set_option maxHeartbeats 4000000
/-! PdCall2: calls, instances, fields, isinstance, properties. -/
namespace Pd
open PySem PySem.Spec PyProof.Rows L2

/-- a pure def by name -/
structure GF (Z : Wd) (x : Str) (k : Nat) (g : List D → Option D) : Prop where
  ex : ∃ (f : Addr) (fd : FuncData) (ps : List Str) (n : Nat), Z.mg x = some (.ref f) ∧ PySem.W.keepIn Z.K (.ref f) = true ∧ Binds Z.K fd ps [] ∧ FnOk Z.P Z.w Z.K Z.mg Z.base CX0 k f fd ps (spF Z n g) ∧ ∀ ds r, g ds = some r → ds.length = n
/-- .. with both values by keywords, or the one -/
structure GK (Z : Wd) (x : Str) (k : Nat) (ks : List Str) (g : List D → Option D) (sw : {α : Type} → List α → List α) : Prop where
  ex : ∃ (f : Addr) (fd : FuncData) (ps : List Str) (n : Nat), Z.mg x = some (.ref f) ∧ PySem.W.keepIn Z.K (.ref f) = true ∧ KBn Z.K fd ps 0 ks (fun _ ws => sw ws) (fun _ zs => sw zs) ∧ FnOk Z.P Z.w Z.K Z.mg Z.base CX0 k f fd ps (spF Z n g) ∧ (∀ ds r, g ds = some r → ds.length = n) ∧ ks.length = n ∧
    (∀ (F : Hp) (vs : List V) (ds : List D), RepL Z F vs ds → vs.length = n → RepL Z F (sw vs) (sw ds))
/-- a def that turns its first argument -/
structure GO (Z : Wd) (x : Str) (k : Nat) (g : D → List D → Option (D × D)) : Prop where
  ex : ∃ (f : Addr) (fd : FuncData) (ps : List Str) (n : Nat), Z.mg x = some (.ref f) ∧ PySem.W.keepIn Z.K (.ref f) = true ∧ Binds Z.K fd ps [] ∧ FnOk Z.P Z.w Z.K Z.mg Z.base CX0 k f fd ps (spO Z n g) ∧ ∀ d ds r, g d ds = some r → ds.length + 1 = n
/-- a class that is made, with dd for what lacks -/
structure GM (Z : Wd) (x : Str) (c : Cl) (k : Nat) (g : D → List D → Option (D × D)) (dd : List D) : Prop where
  ex : ∃ (f : Addr) (fd : FuncData) (ps : List Str) (n : Nat) (dvs : List V) (ds : List Value), Z.mg x = some (.ref (Z.cA c)) ∧ Mk Z.K (Z.cA c) f ∧ Binds Z.K fd ps ds ∧ Vals dvs ds ∧ (∀ F, RepL Z F dvs dd) ∧ FnOk Z.P Z.w Z.K Z.mg Z.base CX0 k f fd ps (spO Z n g) ∧ ∀ d ds r, g d ds = some r → ds.length + 1 = n

section
variable {Z : Wd} {X : Cx} {e a b c o : Expr} {es : List Expr} {pos p apos : Pos} {x : Str} {k : Nat}

theorem OkX.nox (ok : OkX Z X) : OkX Z X.nox := ⟨ok.P, ok.w, ok.K, ok.mg, ok.base, ok.calm, ok.nd⟩
theorem FnOk.atX (ok : OkX Z X) {CX : CXT} {f : Addr} {fd : FuncData} {ps : List Str} {sp : Sp} (F : FnOk Z.P Z.w Z.K Z.mg Z.base CX k f fd ps sp) : FnOk X.prog X.w X.K X.mg X.base CX k f fd ps sp := by
  rw [ok.P, ok.w, ok.K, ok.mg, ok.base]; exact F

/-- f(e, ..) -/
theorem d_call {g : List D → Option D} {ms : List E} (ok : OkX Z X) (G : GF Z x k g) (hr : Room k X.A) (hg : Gl X x) (ha : PA X (e :: es) (tDs Z (args ms))) (hdb : (x == ("__debug__" : Str)) = false := by decide)
    (he : starEach (e :: es) X.env = (false, eval e X.env) :: starEach es X.env := by rfl) (hpl : (backTo pos (starEach es X.env)).any (·.1) = false := by rfl) : PE X (.Call (.Name x p) (e :: es) [] pos) (tD Z (eCall g ms)) := by
  obtain ⟨f, fd, ps, n, h1, h2, h3, h4, h5⟩ := G.ex
  refine PE.imp (pe_call (FnOk.atX ok h4) hr hg (by rw [ok.mg]; exact h1) (by rw [ok.K]; exact h2) (by rw [ok.K]; exact h3) .nil pass0 ha hdb he hpl) fun σ H Q h => ?_
  obtain ⟨C, L, ρ, ds, ρ', s, hm, q⟩ := call_go h
  refine ⟨C, L, ρ, ds, ρ', s, hm, fun vs H1 L1 sm s1 r => ?_⟩
  show spF Z n g (vs ++ []) H1 Q E0
  rw [List.append_nil]
  obtain ⟨N, es', d', tk, r', hf, q'⟩ := q vs H1 L1 sm s1 r
  exact ⟨by rw [r'.length]; exact h5 _ _ hf, N, es', d', tk, r', hf, q'⟩

/-- f(k = v, ..) -/
theorem d_callK {g : List D → Option D} {ms : List E} {ks : List Str} {kws : List Keyword} {sw : {α : Type} → List α → List α} (ok : OkX Z X) (G : GK Z x k ks g sw) (hr : Room k X.A) (hg : Gl X x) (hkw : PK X kws (tDs Z (args ms)))
    (hms : ms.length = ks.length := by rfl) (hall : (backToKw pos (keywordEach kws X.env)).all (·.1.isSome) = true := by rfl) (hks : (backToKw pos (keywordEach kws X.env)).filterMap (·.1) = ks := by rfl) (hdb : (x == ("__debug__" : Str)) = false := by decide)
    (hpl : ((backTo pos (starEach [] X.env)).any (·.1) || (backToKw pos (keywordEach kws X.env)).any (·.1.isNone)) = false := by rfl) : PE X (.Call (.Name x p) [] kws pos) (tD Z (eCall (fun ds => g (sw ds)) ms)) := by
  obtain ⟨f, fd, ps, n, h1, h2, h3, h4, h5, h6, h7⟩ := G.ex
  refine ⟨fun pins s σ H Q I h => ?_⟩
  refine wpAny_Call_Name_kw (ld_glob I hg (by rw [ok.mg]; exact h1) ?_ hdb)
  refine PySem.W.callWith_KW0 (h₀ := X.base) I.ok.mod.kin (by rw [ok.K]; exact h2) hall ?_ hpl
  obtain ⟨C, L, ρ, ds, ρ', s0, hm, q⟩ := call_go h
  have hl : ds.length = ks.length := by rw [args_length hm, hms]
  refine thn (hkw.run pos pins s σ H (fun vs H1 => vs.length = ks.length ∧ spF Z n g (sw vs) H1 Q E0) I ⟨C, L, ρ, ds, ρ', s0, hm, fun vs H1 L1 sm s1 r => ?_⟩) fun ws s2 ⟨zs, H2, I2, rz, hlz, q2⟩ => ⟨I2.kIn, ?_⟩
  · obtain ⟨N, es', d', tk, r', hf, q'⟩ := q vs H1 L1 sm s1 r
    have hv : vs.length = n := by rw [r.length, hl, h6]
    have r2 := h7 _ _ _ r' hv
    exact ⟨by rw [hv, h6], by rw [r2.length]; exact h5 _ _ hf, N, sw es', d', tk, r2, hf, q'⟩
  · rw [hks]
    exact run_fnN (X := X) (FnOk.atX ok h4) hr (by rw [ok.K]; exact h3) pass0 I2 .nil rz rfl hlz q2
theorem dk_nil : PK X [] (tDs Z (args [])) := ⟨fun pos pins s σ H Q I ⟨C, L, ρ, ds, ρ', so, hm, q⟩ => by
  cases hm
  exact pk_nil.run pos pins s σ H Q I (q [] H L (Same.refl _) so .nil)⟩
theorem dk_cons {kws : List Keyword} {nm : Option Str} {kpos : Pos} {ma : E} {ms : List E} (ha : PE X e (tD Z ma)) (hr : PK X kws (tDs Z (args ms))) : PK X (⟨nm, e, kpos⟩ :: kws) (tDs Z (args (ma :: ms))) := by
  refine ⟨fun pos pins s σ H Q I ⟨C, L, ρ, ds, ρ', so, hm, q⟩ => (pk_cons ha hr).run pos pins s σ H Q I ?_⟩
  obtain ⟨x, ρ1, h1, hm⟩ := bnd_inv hm
  obtain ⟨xs, ρ2, h2, hm⟩ := bnd_inv hm
  cases hm
  exact ⟨C, L, ρ, x, _, so, h1, fun v1 H1 L1 sm1 s1 r1 => ⟨C, L1, ρ1, xs, _, s1, h2, fun vs H2 L2 sm2 s2 r2 => q (v1 :: vs) H2 L2 (sm1.trans sm2) s2 (.cons (r1.mono sm2) r2)⟩⟩

theorem own_inv {k : Nat} {ρ ρ' : Env} {d : D} (h : own? k ρ = some (d, ρ')) : ρ[k]? = some (.o d) ∧ ρ = ρ' := by
  unfold own? at h
  split at h
  · cases h; rename_i hh; exact ⟨hh, rfl⟩
  · cases h
theorem putO_inv {k : Nat} {ρ ρ' : Env} {d : D} (h : putO k d ρ = some ((), ρ')) : (∃ e, ρ[k]? = some (.o e)) ∧ ρ' = ρ.set k (.o d) := by
  unfold putO at h
  split at h
  · cases h; rename_i hh; exact ⟨⟨_, hh⟩, rfl⟩
  · cases h
/-- f(x, ..) that turns the owned thing x -/
theorem callO_go {g : D → List D → Option (D × D)} {ms : List E} {i n : Nat} {sp : Sp} (h5 : ∀ d ds r, g d ds = some r → ds.length + 1 = n) {σ : St} {H : Hp} {Q : VK} (h : tD Z (eCallO g i ms) σ H Q) :
    tCons (tVar i) (tDs Z (args ms)) σ H fun vs H1 => spO Z n g vs H1 Q E0 := by
  obtain ⟨C, L, ρ, d, ρ', s, hm, q⟩ := h
  obtain ⟨d0, ρ1, h1, hm⟩ := bnd_inv hm
  obtain ⟨o0, rfl⟩ := own_inv h1
  obtain ⟨ds, ρ2, h2, hm⟩ := bnd_inv hm
  obtain ⟨d1, ρ3, h3, hm⟩ := bnd_inv hm
  obtain ⟨o1, rfl⟩ := own_inv h3
  obtain ⟨r, ρ4, h4, hm⟩ := bnd_inv hm
  obtain ⟨r', h6, e⟩ := lift_inv h4
  cases e
  obtain ⟨u, ρ5, h7, hm⟩ := bnd_inv hm
  obtain ⟨_, rfl⟩ := putO_inv h7
  cases hm
  obtain ⟨l, o, g1, g2, g3, g4⟩ := s.own i d0 o0
  refine ⟨.ref l, g1, C, L, ρ, ds, ρ2, s, h2, fun vs H1 L1 sm s1 rr => ?_⟩
  obtain ⟨l', o', g1', g2', g3', g4'⟩ := s1.own i d1 o1
  rw [g1] at g1'
  cases g1'
  have sub : ∀ b ∈ l :: (L1.filter (fun x => decide (x ≠ l)) ++ C.N), b ∈ L1 ++ C.N := fun b hb => by
    rcases List.mem_cons.mp hb with z | z
    · rw [z]; exact List.mem_append_left _ g2'
    · rcases List.mem_append.mp z with z | z
      · exact List.mem_append_left _ (List.mem_filter.mp z).1
      · exact List.mem_append_right _ z
  have sup : ∀ b ∈ L1 ++ C.N, b ∈ l :: (L1.filter (fun x => decide (x ≠ l)) ++ C.N) := fun b hb => by
    by_cases z : b = l
    · rw [z]; exact List.mem_cons_self
    · refine List.mem_cons_of_mem _ ?_
      rcases List.mem_append.mp hb with y | y
      · exact List.mem_append_left _ (List.mem_filter.mpr ⟨y, decide_eq_true z⟩)
      · exact List.mem_append_right _ y
  refine ⟨by rw [List.length_cons, rr.length]; exact h5 _ _ _ h6, l, vs, L1.filter (fun x => decide (x ≠ l)) ++ C.N, o', d1, ds, r.1, r.2, rfl, fun b hb => s1.trk b (sub b (List.mem_cons_of_mem _ hb)), fun z => ?_, g3', g4'.mono (avoid_sub sub), rr.mono (avoid_sub sub), h6, fun v H2 o2 hk e2 r2 rv => ?_⟩
  · rcases List.mem_append.mp z with z | z
    · have := (List.mem_filter.mp z).2
      simp at this
    · exact s1.apart l g2' z
  · obtain ⟨s2, sm2⟩ := s1.turn (d' := r.2) o1 g1 g2' hk e2 (r2.mono (avoid_sub sup))
    exact q v H2 L1 (sm.trans sm2) s2 (rv.mono (avoid_sub sup))
theorem d_callO {g : D → List D → Option (D × D)} {ms : List E} {i : Nat} (ok : OkX Z X) (G : GO Z x k g) (hr : Room k X.A) (hg : Gl X x) (hi : PE X e (tVar i)) (ha : PA X es (tDs Z (args ms))) (hdb : (x == ("__debug__" : Str)) = false := by decide)
    (he : starEach (e :: es) X.env = (false, eval e X.env) :: starEach es X.env := by rfl) (hpl : (backTo pos (starEach es X.env)).any (·.1) = false := by rfl) : PE X (.Call (.Name x p) (e :: es) [] pos) (tD Z (eCallO g i ms)) := by
  obtain ⟨f, fd, ps, n, h1, h2, h3, h4, h5⟩ := G.ex
  refine PE.imp (pe_call (FnOk.atX ok h4) hr hg (by rw [ok.mg]; exact h1) (by rw [ok.K]; exact h2) (by rw [ok.K]; exact h3) .nil pass0 (pa_cons hi ha he) hdb he hpl) fun σ H Q h => ?_
  have := callO_go (sp := spO Z n g) h5 h
  show tCons _ _ σ H fun vs H1 => spO Z n g (vs ++ []) H1 Q E0
  simp only [List.append_nil]
  exact this

/-- C(e, ..) -/
theorem make_inv {cl : Cl} {g : D → List D → Option (D × D)} {ds : List D} {d : D} (h : make cl g ds = some d) : g (.ins cl []) ds = some (.non, d) := by
  unfold make at h
  split at h
  · rename_i e; cases h; exact e
  · cases h
theorem d_make {cl : Cl} {g : D → List D → Option (D × D)} {dd : List D} {gm : List D → Option D} {ms : List E} (ok : OkX Z X) (G : GM Z x cl k g dd) (hgm : ∀ ds, gm ds = make cl g (ds ++ dd)) (hr : Room (k + 1) X.A) (hg : Gl X x) (ha : PA X (e :: es) (tDs Z (args ms))) (hdb : (x == ("__debug__" : Str)) = false := by decide)
    (he : starEach (e :: es) X.env = (false, eval e X.env) :: starEach es X.env := by rfl) (hpl : (backTo pos (starEach es X.env)).any (·.1) = false := by rfl) : PE X (.Call (.Name x p) (e :: es) [] pos) (tD Z (eCall gm ms)) := by
  obtain ⟨f, fd, ps, n, dvs, dvl, h1, h2, h3, h4, h5, h6, h7⟩ := G.ex
  refine PE.imp (pe_make (by rw [ok.K]; exact h2) (FnOk.atX ok h6) hr hg (by rw [ok.mg]; exact h1) (by rw [ok.K]; exact h3) h4 pass0 ha hdb he hpl) fun σ H Q h => ?_
  obtain ⟨C, L, ρ, d, ρ', s, hm, q⟩ := h
  obtain ⟨ds, ρ1, e1, hm⟩ := bnd_inv hm
  obtain ⟨y, e2, e3⟩ := lift_inv hm
  cases e3
  rw [hgm] at e2
  have e2 := make_inv e2
  refine ⟨C, L, ρ, ds, _, s, e1, fun vs H1 L1 sm s1 r xx dx hx hdx hne => ?_⟩
  have hN := s1.fresh hx
  have hNd := s1.fresh hdx
  have sm1 : Same H1 (upd (upd H1 dx (.own xx)) xx (.ins (Z.cA cl) dx [])) := (same_upd hdx).trans (same_upd (by rw [upd_ne (Ne.symm hne)]; exact hx))
  have sm2 : Same (avoid H1 (L1 ++ C.N)) (avoid (upd (upd H1 dx (.own xx)) xx (.ins (Z.cA cl) dx [])) (xx :: (L1 ++ C.N))) := fun b u z => by
    obtain ⟨n1, z⟩ := avoid_some z
    refine avoid_mk (fun y => ?_) (sm1 _ _ z)
    rcases List.mem_cons.mp y with y | y
    · rw [y, hx] at z; cases z
    · exact n1 y
  refine ⟨?_, xx, vs ++ dvs, L1 ++ C.N, .ins (Z.cA cl) dx [], .ins cl [], ds ++ dd, .non, d, rfl, fun b hb z => s1.trk b hb ?_, hN, upd_same, .ins (by cases cl <;> rfl) (by decide) .nil, (r.mono sm2).append (h5 _), e2, fun v H2 o' hk e4 r4 rv => ⟨rv.non_inv, ?_⟩⟩
  · rw [List.length_cons, List.length_append, r.length, (h5 H).length, ← List.length_append]; exact h7 _ _ _ e2
  · cases hh : H1 b with
    | none => rfl
    | some u => rw [sm1 b u hh] at z; cases z
  · have k1 : ∀ b u, H1 b = some u → H2 b = some u := fun b u hb => hk b u (fun z => by rw [z, hx] at hb; cases hb) (sm1 b u hb)
    have k2 : Same H1 H2 := k1
    refine q (.ref xx) H2 L1 (sm.trans (Fz_ext k2)) (s1.ext k2) (.ref (avoid_mk hN e4) (r4.mono (avoid_sub fun b hb => List.mem_cons_of_mem _ hb)))

/-! ### fields -/
structure ClsF (Z : Wd) : Prop where
  cl : ∀ c : Cl, Cls Z.K (Z.cA c)
  na : ∀ (c : Cl) (f : Fd), fdIx f c ≠ none → NoAttr Z.K (Z.cA c) (fdS f)
  ha : ∀ c : Cl, PySem.W.findIn Z.K (.ref (Z.cA c)) "__class__" = some (some (.builtin "object.__class__"))
  hn : PySem.W.specialIn Z.K (.builtin "object.__class__") "__get__" = some (some (.builtin "getset_descriptor.__get__"))
  htk : PySem.W.takesIn Z.K (.builtin "object.__class__") = some true
  hm : ∀ c : Cl, PySem.W.mroIn Z.K (Z.cA c) (.type "object") = some true
  kk : ∀ c c' : Cl, PySem.W.kitOne Z.K (.ref (Z.cA c)) (.ref (Z.cA c')) = some (decide (c = c'))
  ki : ∀ c : Cl, PySem.W.kitOne Z.K (.ref (Z.cA c)) (.type "int") = some false
  ik : ∀ c : Cl, PySem.W.kitOne Z.K (.type "int") (.ref (Z.cA c)) = some false
theorem flds_lookup {c : Cl} {f : Fd} {i : Nat} (h : fdIx f c = some i) {fs : List D} {fs' : List (Str × V)} (hk : fs'.map (·.1) = ((flds c).map fdS).take fs.length) (hl : fs.length ≤ 2) {v : V} (hv : (fs'.map (·.2))[i]? = some v) : fs'.lookup (fdS f) = some v := by
  have l1 : fs'.length = fs.length := by
    have := congrArg List.length hk
    rw [List.length_map, List.length_take, List.length_map] at this
    cases c <;> simp [flds] at this <;> omega
  match fs', hk, hv with
  | [], hk, hv => simp at hv
  | [(a, x)], hk, hv =>
    rw [show fs.length = 1 from l1.symm] at hk
    cases c <;> cases f <;> simp [fdIx] at h <;> subst h <;> simp at hv <;> subst hv <;> simp [flds, fdS] at hk <;> subst hk <;> rfl
  | [(a, x), (b, y)], hk, hv =>
    rw [show fs.length = 2 from l1.symm] at hk
    cases c <;> cases f <;> simp [fdIx] at h <;> subst h <;> simp at hv <;> subst hv <;> simp [flds, fdS] at hk <;> obtain ⟨rfl, rfl⟩ := hk <;> rfl
  | _ :: _ :: _ :: _, hk, hv => simp at l1; omega
theorem d_fld {f : Fd} {ma : E} (ok : OkX Z X) (cf : ClsF Z) (he : PE X e (tD Z ma)) (hb : attributeBase e (fdS f) X.env (eval e X.env) = eval e X.env) {fn : Str} (hf : fn = fdS f := by rfl) : PE X (.Attribute e fn pos) (tD Z (e1 (opFld f) ma)) := by
  subst hf
  refine PE.imp (pe_fld he hb) fun σ H Q ⟨C, L, ρ, d, ρ', s, hm, q⟩ => ?_
  obtain ⟨x, ρ1, h1, hm⟩ := bnd_inv hm
  obtain ⟨y, h2, e⟩ := lift_inv hm
  cases e
  refine ⟨C, L, ρ, x, _, s, h1, fun v H1 L1 sm s1 r => ?_⟩
  cases x with
  | ins c fs =>
    have h2 : (fdIx f c).bind (fun k => fs[k]?) = some d := h2
    cases hi : fdIx f c with
    | none => rw [hi] at h2; cases h2
    | some i =>
      rw [hi] at h2
      obtain ⟨a, dx, fs', rfl, ea, hk, hl, rr⟩ := r.ins_inv
      obtain ⟨w, hw, rw'⟩ := rr.get h2
      refine ⟨a, Z.cA c, dx, fs', w, rfl, avoid_le _ _ ea, by rw [ok.K]; exact cf.cl c, by rw [ok.K]; exact cf.na c f (by rw [hi]; exact fun z => nomatch z), flds_lookup hi hk hl hw, q w H1 L1 sm s1 rw'⟩
  | _ => cases h2
/-- self.f = e, the next field of the owned instance -/
theorem s_fld {f : Fd} {ma : E} {i : Nat} {pos' : Pos} (ok : OkX Z X) (cf : ClsF Z) (hi : PE X o (tVar i)) (he : PE X e (tD Z ma)) {fn : Str} (hf : fn = fdS f := by rfl) (hs : swapsWith e (some (.Attribute o fn pos')) pos.line X.env = pure false := by rfl) : PS X (.Assign [.Attribute o fn pos'] e pos) (tDS Z (sFld i f ma)) := by
  subst hf
  refine PS.imp (ps_fld hi he hs) fun D' σ H ⟨C, L, ρ, c, ρ', s, hm, qn, qr⟩ => ?_
  obtain ⟨y, ρ1, h1, hm⟩ := bnd_inv hm
  obtain ⟨d, ρ2, h2, hm⟩ := bnd_inv hm
  obtain ⟨o2, rfl⟩ := own_inv h2
  cases d with
  | ins cl fs =>
    dsimp only at hm
    by_cases hx : fdIx f cl = some fs.length
    · rw [if_pos hx] at hm
      obtain ⟨_, ρ3, h3, hm⟩ := bnd_inv hm
      obtain ⟨_, rfl⟩ := putO_inv h3
      cases hm
      refine ⟨C, L, ρ, y, _, s, h1, fun v H1 L1 sm s1 r => ?_⟩
      obtain ⟨l, ho, g1, g2, g3, g4⟩ := s1.own i _ o2
      refine ⟨.ref l, g1, ?_⟩
      cases g4 with
      | @ins _ dx _ fs' _ hk hl rr =>
        have l1 : fs'.length = fs.length := by
          have := congrArg List.length hk
          rw [List.length_map, List.length_take, List.length_map] at this
          cases cl <;> simp [flds] at this <;> omega
        have l2 : fs.length ≤ 1 := by cases cl <;> cases f <;> simp [fdIx] at hx <;> omega
        have ep : putF (fdS f) v fs' = fs' ++ [(fdS f, v)] := by
          match fs', hk, l1 with
          | [], _, _ => rfl
          | [(a, x)], hk, l1 =>
            have z : fs.length = 1 := l1.symm
            rw [z] at hx hk
            have : a ≠ fdS f := by
              cases cl <;> cases f <;> simp [fdIx] at hx <;> simp [flds, fdS] at hk <;> subst hk <;> decide
            show (if a = fdS f then (a, v) :: [] else (a, x) :: putF (fdS f) v []) = _
            rw [if_neg this]; rfl
          | _ :: _ :: _, _, l1 => simp at l1; omega
        refine ⟨l, Z.cA cl, dx, fs', rfl, g3, by rw [ok.K]; exact cf.cl cl, by rw [ok.K]; exact cf.na cl f (by rw [hx]; exact fun z => nomatch z), by omega, ?_⟩
        rw [ep]
        have sm2 : Fz C L1 (upd H1 l (.ins (Z.cA cl) dx (fs' ++ [(fdS f, v)]))) = Fz C L1 H1 := avoid_upd (List.mem_append_left _ g2)
        obtain ⟨s3, sm3⟩ := s1.turn (d' := .ins cl (fs ++ [y])) (H' := upd H1 l (.ins (Z.cA cl) dx (fs' ++ [(fdS f, v)]))) o2 g1 g2 (fun a u ne z => by rw [upd_ne ne]; exact z) upd_same (by
          rw [sm2]
          refine .ins ?_ (by rw [List.length_append, List.length_singleton]; omega) ?_
          · rw [List.map_append, hk, List.length_append, List.length_singleton]
            cases cl <;> cases f <;> simp [fdIx] at hx <;> (try (rw [← hx])) <;> (try rfl) 
          · rw [List.map_append]; exact rr.append (.cons r .nil))
        exact qn rfl σ _ L1 (sm.trans sm3) s3
    · rw [if_neg hx] at hm; cases hm
  | _ => cases hm
end
end Pd
end
section
set_option Elab.async false
set_option linter.all false
set_option maxRecDepth 100000
set_option maxHeartbeats 4000000
/-! PdCall3: isinstance, properties, methods, several targets. -/
namespace Pd
open PySem PySem.Spec PyProof.Rows L2
section
variable {Z : Wd} {X : Cx} {e a b c o : Expr} {es : List Expr} {pos p apos : Pos} {x : Str} {k : Nat}

/-! ### isinstance -/
def tyN : Ty → Option String
  | .int => some "int"
  | .bool => some "bool"
  | .tuple => some "tuple"
  | _ => none
theorem isi_val {F : Hp} {v : V} {d : D} (r : Rep Z F v d) : (∀ T d', opIsi T d = some d' → ∃ b, d' = .bl b) := by
  intro T d' h
  unfold opIsi at h
  split at h <;> first | (cases h; exact ⟨_, rfl⟩) | cases h
theorem isi_B {H : Hp} {N : List Addr} {v : V} {d d' : D} {T : Ty} {n : String} (cf : ClsF Z) (hT : tyN T = some n) (r : Rep Z (avoid H N) v d) (h : opIsi T d = some d') : ∃ (t : Value) (b : Bool), TyX Z.K H v t ∧ PySem.W.kitOne Z.K t (.type n) = some b ∧ d' = .bl b := by
  cases T <;> cases d <;> (first | (cases h; done) | skip) <;> cases h <;> cases hT
  -- int
  · exact ⟨_, _, .base (by rw [r.non_inv]; exact .non), kit_ty (by decide +kernel), rfl⟩
  · exact ⟨_, _, .base (by rw [r.bl_inv]; exact .bl _), kit_ty (by decide +kernel), rfl⟩
  · exact ⟨_, _, .base (by rw [r.int_inv]; exact .int _), kit_ty (by decide +kernel), rfl⟩
  · obtain ⟨a, xs, rfl, ea, _⟩ := r.tup_inv
    exact ⟨_, _, .base (.tup (avoid_le _ _ ea)), kit_ty (by decide +kernel), rfl⟩
  · obtain ⟨a, xs, rfl, ea, _⟩ := r.lst_inv
    exact ⟨_, _, .base (.lst (avoid_le _ _ ea)), kit_ty (by decide +kernel), rfl⟩
  · obtain ⟨a, dx, fs', rfl, ea, _⟩ := r.ins_inv
    exact ⟨_, _, .base (.ins (avoid_le _ _ ea) (cf.cl _) (cf.ha _) cf.hn cf.htk (cf.hm _)), cf.ki _, rfl⟩
  -- bool
  · exact ⟨_, _, .base (by rw [r.bl_inv]; exact .bl _), kit_ty (by decide +kernel), rfl⟩
  · exact ⟨_, _, .base (by rw [r.int_inv]; exact .int _), kit_ty (by decide +kernel), rfl⟩
  -- tuple
  · obtain ⟨a, xs, rfl, ea, _⟩ := r.tup_inv
    exact ⟨_, _, .base (.tup (avoid_le _ _ ea)), kit_ty (by decide +kernel), rfl⟩
theorem isi_C {H : Hp} {N : List Addr} {v : V} {d d' : D} {cl : Cl} (cf : ClsF Z) (r : Rep Z (avoid H N) v d) (h : opIsi (.cls cl) d = some d') : ∃ (t : Value) (b : Bool), TyX Z.K H v t ∧ PySem.W.kitOne Z.K t (.ref (Z.cA cl)) = some b ∧ d' = .bl b := by
  cases d <;> (first | (cases h; done) | skip) <;> cases h
  · exact ⟨_, _, .base (by rw [r.int_inv]; exact .int _), cf.ik _, rfl⟩
  · obtain ⟨a, dx, fs', rfl, ea, _⟩ := r.ins_inv
    refine ⟨_, _, .base (.ins (avoid_le _ _ ea) (cf.cl _) (cf.ha _) cf.hn cf.htk (cf.hm _)), cf.kk _ _, ?_⟩
    congr 1
    exact decide_eq_decide.mpr eq_comm
/-- isinstance(a, b) -/
theorem isi_call {T : Ty} {ma : E} {w : V} {u : Value} (ok : OkX Z X) (hw : ClsV w u) (hT : ∀ {H : Hp} {N : List Addr} {v : V} {d d' : D}, Rep Z (avoid H N) v d → opIsi T d = some d' → ∃ (t : Value) (b : Bool), TyX Z.K H v t ∧ PySem.W.kitOne Z.K t u = some b ∧ d' = .bl b)
    (hg : Gl X "isinstance") (hm : X.mg "isinstance" = none) (ha : PE X a (tD Z ma)) (hb : PE X b (tC w)) (h1 : starEach [a, b] X.env = (false, eval a X.env) :: starEach [b] X.env := by rfl) (h2 : starEach [b] X.env = (false, eval b X.env) :: starEach [] X.env := by rfl) (hpl : (backTo pos (starEach [b] X.env)).any (·.1) = false := by rfl) :
    PE X (.Call (.Name "isinstance" p) [a, b] [] pos) (tD Z (e1 (opIsi T) ma)) := by
  refine PE.imp (pe_callB call_isi hg hm (by decide +kernel) (pa_cons ha (pa_cons hb pa_nil h2) h1) (by decide) (by decide) h1 hpl) fun σ H Q h => ?_
  obtain ⟨C, L, ρ, d, ρ', s, hm, q⟩ := e1_go h
  refine ⟨C, L, ρ, d, ρ', s, hm, fun v H1 L1 sm s1 r => ?_⟩
  obtain ⟨N, d1, d2, tk, r1, hf, q1⟩ := q v H1 L1 sm s1 r
  obtain ⟨t, b, ty, ek, rfl⟩ := hT r1 hf
  exact ⟨v, w, t, u, b, rfl, hw, by rw [ok.K]; exact ty, by rw [ok.K]; exact ek, q1 _ H1 (Same.refl _) (.bl b)⟩
theorem d_isiB {T : Ty} {ma : E} {n : String} {y : Str} {p2 : Pos} (ok : OkX Z X) (cf : ClsF Z) (hT : tyN T = some n) (hg : Gl X "isinstance") (hm : X.mg "isinstance" = none) (ha : PE X a (tD Z ma)) (hy : Gl X y) (hmy : X.mg y = none) (hv : bootBuiltins y = some (.type n))
    (h1 : starEach [a, .Name y p2] X.env = (false, eval a X.env) :: starEach [.Name y p2] X.env := by rfl) (hn : y ≠ "__name__" := by decide) (hd : (y == ("__debug__" : Str)) = false := by decide) : PE X (.Call (.Name "isinstance" p) [a, .Name y p2] [] pos) (tD Z (e1 (opIsi T) ma)) :=
  isi_call ok (.ty n) (fun r h => isi_B cf hT r h) hg hm ha (pe_bltn hy hmy hv (v := .ty n) rfl hn hd) h1 rfl rfl
theorem d_isiC {cl : Cl} {ma : E} {y : Str} {p2 : Pos} (ok : OkX Z X) (cf : ClsF Z) (hg : Gl X "isinstance") (hm : X.mg "isinstance" = none) (ha : PE X a (tD Z ma)) (hy : Gl X y) (hmy : Z.mg y = some (.ref (Z.cA cl)))
    (h1 : starEach [a, .Name y p2] X.env = (false, eval a X.env) :: starEach [.Name y p2] X.env := by rfl) (hd : (y == ("__debug__" : Str)) = false := by decide) : PE X (.Call (.Name "isinstance" p) [a, .Name y p2] [] pos) (tD Z (e1 (opIsi (.cls cl)) ma)) :=
  isi_call ok (.own (Z.cA cl)) (fun r h => isi_C cf r h) hg hm ha (pe_glob hy (by rw [ok.mg]; exact hmy) (v := .ref (Z.cA cl)) rfl hd) h1 rfl rfl
/-- isinstance(a, (list, tuple)) -/
theorem d_isiLT {ma : E} {p2 p3 p4 : Pos} {kt} (ok : OkX Z X) (hg : Gl X "isinstance") (hm : X.mg "isinstance" = none) (ha : PE X a (tD Z ma)) (hy : Gl X "list") (hmy : X.mg "list" = none) (hz : Gl X "tuple") (hmz : X.mg "tuple" = none)
    (h1 : starEach [a, .Tuple [.Name "list" p2, .Name "tuple" p3] kt p4] X.env = (false, eval a X.env) :: starEach [.Tuple [.Name "list" p2, .Name "tuple" p3] kt p4] X.env := by rfl) : PE X (.Call (.Name "isinstance" p) [a, .Tuple [.Name "list" p2, .Name "tuple" p3] kt p4] [] pos) (tD Z (e1 (opIsi .listTuple) ma)) := by
  refine PE.imp (pe_callB call_isiT hg hm (by decide +kernel) (pa_cons ha (pa_cons (pe_tup (pa_cons (pe_bltn hy hmy (u := .type "list") (by decide +kernel) (v := .ty "list") rfl) (pa_cons (pe_bltn hz hmz (u := .type "tuple") (by decide +kernel) (v := .ty "tuple") rfl) pa_nil))) pa_nil) h1) (by decide) (by decide) h1 rfl) fun σ H Q h => ?_
  obtain ⟨C, L, ρ, d, ρ', s, hm, q⟩ := e1_go h
  refine ⟨C, L, ρ, d, ρ', s, hm, fun v H1 L1 sm s1 r => ⟨by show 2 ≤ sizeLine; exact Nat.le_trans (by decide) line1000, fun tp htp => ?_⟩⟩
  obtain ⟨N, d1, d2, tk, r1, hf, q1⟩ := q v H1 L1 sm s1 r
  have r2 := r1.mono (avoid_same (N := N) (same_upd (o := .tup [.ty "list", .ty "tuple"]) htp))
  cases d1 <;> (first | (cases hf; done) | skip) <;> cases hf
  · obtain ⟨a, xs, rfl, ea, _⟩ := r2.tup_inv
    refine ⟨.ref a, tp, [.ty "list", .ty "tuple"], _, [.type "list", .type "tuple"], true, rfl, upd_same, .cons (.ty _) (.cons (.ty _) .nil), .base (.tup (avoid_le _ _ ea)), ?_, q1 _ _ (same_upd htp) (.bl _)⟩
    exact kitAny_cons (b := false) (kit_ty (by decide +kernel)) (fun _ => kitAny_cons (b := true) (kit_ty (by decide +kernel)) (fun z => nomatch z) fun _ => rfl) fun z => nomatch z
  · obtain ⟨a, xs, rfl, ea, _⟩ := r2.lst_inv
    refine ⟨.ref a, tp, [.ty "list", .ty "tuple"], _, [.type "list", .type "tuple"], true, rfl, upd_same, .cons (.ty _) (.cons (.ty _) .nil), .base (.lst (avoid_le _ _ ea)), ?_, q1 _ _ (same_upd htp) (.bl _)⟩
    exact kitAny_cons (b := true) (kit_ty (by decide +kernel)) (fun z => nomatch z) fun _ => rfl

/-! ### properties, methods -/
structure GP (Z : Wd) (x : Str) (c : Cl) (k : Nat) (g : List D → Option D) : Prop where
  ex : ∃ (pp f : Addr) (fd : FuncData) (ps : List Str) (n : Nat), PropOf Z.K (Z.cA c) x pp f ∧ Binds Z.K fd ps [] ∧ FnOk Z.P Z.w Z.K Z.mg Z.base CX0 k f fd ps (spF Z n g) ∧ ∀ ds r, g ds = some r → ds.length = n
structure GT (Z : Wd) (x : Str) (c : Cl) (k : Nat) (g : List D → Option D) : Prop where
  ex : ∃ (f : Addr) (fd : FuncData) (ps : List Str) (n : Nat), Meth Z.K (Z.cA c) x f ∧ x ∉ (flds c).map fdS ∧ Binds Z.K fd ps [] ∧ FnOk Z.P Z.w Z.K Z.mg Z.base CX0 k f fd ps (spF Z n g) ∧ ∀ ds r, g ds = some r → ds.length = n
theorem prp_go {cl : Cl} {g : List D → Option D} {ma : E} {n : Nat} (h5 : ∀ ds r, g ds = some r → ds.length = n) {σ : St} {H : Hp} {Q : VK} (h : tD Z (e1 (opPrp cl g) ma) σ H Q) :
    tD Z ma σ H fun x H1 => ∃ a dx fs' fs, x = .ref a ∧ H1 a = some (.ins (Z.cA cl) dx fs') ∧ fs'.map (·.1) = ((flds cl).map fdS).take fs ∧ spF Z n g [.ref a] H1 Q E0 := by
  obtain ⟨C, L, ρ, d, ρ', s, hm, q⟩ := h
  obtain ⟨x, ρ1, h1, hm⟩ := bnd_inv hm
  obtain ⟨y, h2o, e⟩ := lift_inv hm
  cases e
  refine ⟨C, L, ρ, x, _, s, h1, fun v H1 L1 sm s1 r => ?_⟩
  cases x with
  | ins c' fs =>
    have h2 : (if c' = cl then g [.ins c' fs] else none) = some d := h2o
    clear h2o hm
    by_cases hc : c' = cl
    · rw [if_pos hc] at h2
      subst hc
      have hl := h5 _ _ h2
      obtain ⟨a, dx, fs', rfl, ea, hk, _, _⟩ := r.ins_inv
      exact ⟨a, dx, fs', fs.length, rfl, avoid_le _ _ ea, hk, hl, L1 ++ C.N, [.ins c' fs], d, s1.trk, .cons r .nil, h2, fun v H2 sm2 r2 => q v H2 L1 (sm.trans (Fz_ext sm2)) (s1.ext sm2) r2⟩
    · rw [if_neg hc] at h2; cases h2
  | _ => cases h2o
theorem d_prop {cl : Cl} {g : List D → Option D} {ma : E} (ok : OkX Z X) (cf : ClsF Z) (G : GP Z x cl k g) (hr : Room (k + 1) X.A) (he : PE X e (tD Z ma)) (hab : attributeBase e x X.env (eval e X.env) = eval e X.env) : PE X (.Attribute e x pos) (tD Z (e1 (opPrp cl g) ma)) := by
  obtain ⟨pp, f, fd, ps, n, h1, h2, h3, h4⟩ := G.ex
  refine PE.imp (pe_prop he (by rw [ok.K]; exact cf.cl cl) (by rw [ok.K]; exact h1) (FnOk.atX ok h3) hr (by rw [ok.K]; exact h2) .nil pass0 hab) fun σ H Q h => ?_
  obtain ⟨C, L, ρ, d, ρ', s, hm, q⟩ := prp_go h4 h
  exact ⟨C, L, ρ, d, ρ', s, hm, fun v H1 L1 sm s1 r => let ⟨a, dx, fs', fs, h1, h2, h3, h4⟩ := q v H1 L1 sm s1 r; ⟨a, dx, fs', h1, h2, h4⟩⟩
theorem lookup_none {f : Str} : ∀ {fs : List (Str × V)}, f ∉ fs.map (·.1) → fs.lookup f = none
  | [], _ => rfl
  | (a, v) :: fs, h => by
    rw [List.map_cons, List.mem_cons, not_or] at h
    have : (f == a) = false := beq_eq_false_iff_ne.mpr h.1
    show (match f == a with | true => some v | false => fs.lookup f) = none
    rw [this]
    exact lookup_none h.2
/-- e.m() -/
theorem d_meth0 {cl : Cl} {g : List D → Option D} {ma : E} {pl : Sem Bool} (ok : OkX Z X) (cf : ClsF Z) (G : GT Z x cl k g) (hr : Room k X.A) (he : PE X o (tD Z ma))
    (ht : eval (.Call (.Attribute o x apos) [] [] pos) X.env = (do
      let ov ← eval o X.env
      standAt apos.atName
      let (f, first) ← holding [ov] (getMethod ov x pl)
      callWith pos f first (backTo pos (starEach [] X.env)) (backToKw pos (keywordEach [] X.env))) := by rfl) : PE X (.Call (.Attribute o x apos) [] [] pos) (tD Z (e1 (opPrp cl g) ma)) := by
  obtain ⟨f, fd, ps, n, h1, hx, h2, h3, h4⟩ := G.ex
  refine PE.imp (pe_meth0 he (by rw [ok.K]; exact cf.cl cl) (by rw [ok.K]; exact h1) (FnOk.atX ok h3) hr (by rw [ok.K]; exact h2) .nil pass0 ht) fun σ H Q h => ?_
  obtain ⟨C, L, ρ, d, ρ', s, hm, q⟩ := prp_go h4 h
  exact ⟨C, L, ρ, d, ρ', s, hm, fun v H1 L1 sm s1 r => by
    obtain ⟨a, dx, fs', fs, rfl, h2, h3, h4⟩ := q v H1 L1 sm s1 r
    exact ⟨a, dx, fs', rfl, h2, lookup_none (by rw [h3]; exact fun z => hx (List.mem_of_mem_take z)), h4⟩⟩

/-! ### several targets -/
theorem gN_inv {k : Nat} {d : D} {ρ ρ' : Env} (h : gN k d ρ = some ((), ρ')) : k < ρ.length ∧ ρ.set k (.i d) = ρ' := by
  unfold gN at h
  by_cases hk : k < ρ.length
  · rw [if_pos hk] at h; cases h; exact ⟨hk, rfl⟩
  · rw [if_neg hk] at h; cases h
theorem args_c {ma : E} {ms : List E} {ρ ρ1 ρ2 : Env} {d : D} {ds : List D} (h1 : ma ρ = some (d, ρ1)) (h2 : args ms ρ1 = some (ds, ρ2)) : args (ma :: ms) ρ = some (d :: ds, ρ2) := by
  unfold args
  rw [bnd_some h1, bnd_some h2]
  rfl
theorem args2 {ma mb : E} {ρ ρ1 ρ2 : Env} {d e : D} (h1 : ma ρ = some (d, ρ1)) (h2 : mb ρ1 = some (e, ρ2)) : args [ma, mb] ρ = some ([d, e], ρ2) := args_c h1 (args_c h2 rfl)
variable {y z : Str} {i j l : Nat} {px py pz pt pt2 : Pos} {kt k2}
theorem s_par {ma mb : E} (ok : OkX Z X) (hi : X.N[i]? = some x) (hj : X.N[j]? = some y) (hij : i ≠ j) (hx : X.env.scope.names.lookup x = some .local) (hy : X.env.scope.names.lookup y = some .local) (ha : PA X [a, b] (tDs Z (args [ma, mb])))
    (hw : swappedStores [.Tuple [.Name x px, .Name y py] kt pt] (.Tuple [a, b] k2 pt2) X.env = pure (some [x, y])) (hs : swapsWithSole [.Tuple [.Name x px, .Name y py] kt pt] (.Tuple [a, b] k2 pt2) pos.line X.env = pure false := by rfl) :
    PS X (.Assign [.Tuple [.Name x px, .Name y py] kt pt] (.Tuple [a, b] k2 pt2) pos) (tDS Z (sPar i j ma mb)) := PS.imp (ps_par ok.calm ok.nd hi hj hij hx hy ha hw hs) fun D' σ H ⟨C, L, ρ, c, ρ', s, hm, qn, qr⟩ => by
  obtain ⟨d1, ρ1, h1, hm⟩ := bnd_inv hm
  obtain ⟨d2, ρ2, h2, hm⟩ := bnd_inv hm
  obtain ⟨_, ρ3, h3, hm⟩ := bnd_inv hm
  obtain ⟨l3, rfl⟩ := gN_inv h3
  obtain ⟨_, ρ4, h4, hm⟩ := bnd_inv hm
  obtain ⟨l4, rfl⟩ := gN_inv h4
  cases hm
  refine ⟨C, L, ρ, [d1, d2], ρ2, s, args2 h1 h2, fun vs H1 L1 sm s1 r => ?_⟩
  obtain ⟨v, w, rfl, r1, r2⟩ := r.two
  exact ⟨v, w, rfl, qn rfl _ H1 L1 sm ((s1.seti l3 r1).seti l4 r2)⟩
theorem s_par3 {ma mb mc : E} (ok : OkX Z X) (hi : X.N[i]? = some x) (hj : X.N[j]? = some y) (hl : X.N[l]? = some z) (hij : i ≠ j) (hil : i ≠ l) (hjl : j ≠ l) (hx : X.env.scope.names.lookup x = some .local) (hy : X.env.scope.names.lookup y = some .local) (hz : X.env.scope.names.lookup z = some .local) (ha : PA X [a, b, c] (tDs Z (args [ma, mb, mc])))
    (hw : swappedStores [.Tuple [.Name x px, .Name y py, .Name z pz] kt pt] (.Tuple [a, b, c] k2 pt2) X.env = pure (some [x, y, z])) (hs : swapsWithSole [.Tuple [.Name x px, .Name y py, .Name z pz] kt pt] (.Tuple [a, b, c] k2 pt2) pos.line X.env = pure false := by rfl) :
    PS X (.Assign [.Tuple [.Name x px, .Name y py, .Name z pz] kt pt] (.Tuple [a, b, c] k2 pt2) pos) (tDS Z (sPar3 i j l ma mb mc)) := PS.imp (ps_par3 ok.calm ok.nd hi hj hl hij hil hjl hx hy hz ha hw hs) fun D' σ H ⟨C, L, ρ, c, ρ', s, hm, qn, qr⟩ => by
  obtain ⟨d1, ρ1, h1, hm⟩ := bnd_inv hm
  obtain ⟨d2, ρ2, h2, hm⟩ := bnd_inv hm
  obtain ⟨d3, ρ3, h3, hm⟩ := bnd_inv hm
  obtain ⟨_, ρ4, h4, hm⟩ := bnd_inv hm
  obtain ⟨l4, rfl⟩ := gN_inv h4
  obtain ⟨_, ρ5, h5, hm⟩ := bnd_inv hm
  obtain ⟨l5, rfl⟩ := gN_inv h5
  obtain ⟨_, ρ6, h6, hm⟩ := bnd_inv hm
  obtain ⟨l6, rfl⟩ := gN_inv h6
  cases hm
  refine ⟨C, L, ρ, [d1, d2, d3], ρ3, s, args_c h1 (args2 h2 h3), fun vs H1 L1 sm s1 r => ?_⟩
  cases r with
  | cons r1 r =>
    obtain ⟨v, w, rfl, r2, r3⟩ := r.two
    exact ⟨_, v, w, rfl, qn rfl _ H1 L1 sm (((s1.seti l4 r1).seti l5 r2).seti l6 r3)⟩
/-- a, b = value, a new container -/
theorem s_parO {ma mb : E} (ok : OkX Z X) (hi : X.N[i]? = some x) (hj : X.N[j]? = some y) (hij : i ≠ j) (hx : X.env.scope.names.lookup x = some .local) (hy : X.env.scope.names.lookup y = some .local) (ha : PE X a (tD Z ma)) (hb : PE X b (tN Z mb)) (h1 : starEach [a, b] X.env = (false, eval a X.env) :: starEach [b] X.env := by rfl) (h2 : starEach [b] X.env = (false, eval b X.env) :: starEach [] X.env := by rfl)
    (hw : swappedStores [.Tuple [.Name x px, .Name y py] kt pt] (.Tuple [a, b] k2 pt2) X.env = pure (some [x, y])) (hs : swapsWithSole [.Tuple [.Name x px, .Name y py] kt pt] (.Tuple [a, b] k2 pt2) pos.line X.env = pure false := by rfl) :
    PS X (.Assign [.Tuple [.Name x px, .Name y py] kt pt] (.Tuple [a, b] k2 pt2) pos) (tDS Z (sParO i j ma mb)) := PS.imp (ps_par ok.calm ok.nd hi hj hij hx hy (pa_cons ha (pa_cons hb pa_nil h2) h1) hw hs) fun D' σ H ⟨C, L, ρ, c, ρ', s, hm, qn, qr⟩ => by
  obtain ⟨d1, ρ1, h1, hm⟩ := bnd_inv hm
  obtain ⟨d2, ρ2, h2, hm⟩ := bnd_inv hm
  by_cases hk : i < ρ2.length ∧ j < ρ2.length ∧ j ≠ 0 ∧ i ≠ j
  · rw [if_pos hk] at hm
    cases hm
    refine ⟨C, L, ρ, d1, ρ1, s, h1, fun v1 H1 L1 sm1 s1 r1 => ⟨C, L1, ρ1, d2, ρ2, s1, h2, fun p o H2 L2 sm2 s2 na e r => ⟨v1, _, rfl, ?_⟩⟩⟩
    refine qn rfl _ H2 (p :: L2) (sm1.trans sm2) ((s2.seti hk.1 (r1.mono sm2)).seto (by rw [List.length_set]; exact hk.2.1) hk.2.2.1 List.mem_cons_self (fun j' e' hj' => ?_) e r)
    by_cases hz : i = j'
    · subst hz
      rw [List.getElem?_set_self hk.1] at hj'
      cases hj'
    · rw [List.getElem?_set_ne hz] at hj' ⊢
      exact na _ _ hj'
  · rw [if_neg hk] at hm; cases hm
end
end Pd
end
section
set_option Elab.async false
set_option linter.all false
set_option maxRecDepth 100000
set_option maxHeartbeats 4000000
/-! PdIter: zip of lists and tuples in any mix, enumerate of both, ranges downwards. -/
namespace Pd
open PySem PySem.Spec PyProof.Rows L2

def SqB (t : Bool) (K : PySem.W.Frag) (H : Hp) (a : Addr) (xs : List V) : Prop := match t with
  | true => SqT K H a xs
  | false => SqL K H a xs
def ItB (t : Bool) (h : Heap) (it a : Addr) (i : Nat) : Prop := match t with
  | true => h.IsTupleIter it a i
  | false => h.IsListIter it a i
def IsB (t : Bool) (h : Heap) (a : Addr) (its : Array Value) : Prop := match t with
  | true => h.IsTuple a its
  | false => h.IsList a its
def ooB (t : Bool) (a : Addr) : Obj := match t with
  | true => { cls := .type "tuple_iterator", data := .fields #[.ref a, .int 0 0] }
  | false => { cls := .type "list_iterator", data := .fields #[.ref a, .int 0 0] }
theorem draws_b {prog : Program} {w : World} {A : Around} (hh : A.handled = none) (t : Bool) (it a : Addr) (hne : a ≠ it) (its : Array Value) : Draws prog w A it [it, a] its.size (fun i v => its[i]? = some v) (fun i h => ItB t h it a i ∧ IsB t h a its) := by
  cases t with
  | true => exact Draws.tuple hh it a hne its
  | false => exact Draws.list hh it a hne its
theorem begins_b (t : Bool) (a : Addr) (its : Array Value) : Begins (.ref a) (ooB t a) fun h => IsB t h a its := by
  cases t with
  | true => exact begins_tuple a its
  | false => exact begins_list a its
theorem ItB.obj {t : Bool} {h : Heap} {it a : Addr} {i : Nat} (x : ItB t h it a i) : ∃ o, h.get? it = some o ∧ ∀ v, o.data ≠ .cell v := by
  cases t with
  | true => obtain ⟨o, e, _, d⟩ := x; exact ⟨o, e, fun v q => by rw [d] at q; cases q⟩
  | false => obtain ⟨o, e, _, d⟩ := x; exact ⟨o, e, fun v q => by rw [d] at q; cases q⟩
theorem ItB.at {t : Bool} {h h' : Heap} {it a : Addr} {i : Nat} (x : ItB t h it a i) (k : ∀ o, h.get? it = some o → h'.get? it = some o) : ItB t h' it a i := by
  cases t with
  | true => exact Heap.IsTupleIter.at (h := h) x k
  | false => exact Heap.IsListIter.at (h := h) x k
theorem itB_new {t : Bool} {h : Heap} {it a : Addr} (e : h.get? it = some (ooB t a)) : ItB t h it a 0 := by
  cases t with
  | true => exact ⟨_, e, rfl, rfl⟩
  | false => exact ⟨_, e, rfl, rfl⟩
theorem inv_b {X : Cx} {pins : List (Addr × Obj)} {σ : L2.St} {H : Hp} {s : Shared} {t : Bool} {a : Addr} {xs : List V} (I : L2.Inv X pins σ H s) (h : SqB t X.K H a xs) : ∃ its : List Value, Vals xs its ∧ IsB t s.heap a its.toArray ∧ a < s.heap.objs.size := by
  cases t with
  | true =>
    obtain ⟨its, r, p, _⟩ := I.tuple h
    obtain ⟨o, ho, _⟩ := id p
    exact ⟨its, r, p, Heap.lt_size ho⟩
  | false =>
    obtain ⟨its, r, p, _⟩ := I.list h
    exact ⟨its, r, p.isList, p.lt⟩
theorem inj_b {X : Cx} {pins : List (Addr × Obj)} {σ : L2.St} {H : Hp} {s : Shared} {t : Bool} {a : Addr} {xs ys : List V} (I : L2.Inv X pins σ H s) (h : SqB t X.K H a xs) (h' : SqB t X.K H a ys) : xs = ys := by
  cases t with
  | true => exact I.tuple_inj h h'
  | false => exact I.list_inj h h'

/-! ### zip -/
def ItzB (K : PySem.W.Frag) (t u : Bool) (a b : Addr) : It :=
  ⟨fun i H => ∃ (xs ys : List V) (x y : V), SqB t K H a xs ∧ SqB u K H b ys ∧ xs[i]? = some x ∧ ys[i]? = some y,
    fun i H v H' => ∃ T x y, v = .ref T ∧ H T = none ∧ H' = upd H T (.tup [x, y]) ∧ (∀ xs, SqB t K H a xs → xs[i]? = some x) ∧ ∀ ys, SqB u K H b ys → ys[i]? = some y,
    fun i H => ∃ xs ys : List V, SqB t K H a xs ∧ SqB u K H b ys ∧ i ≤ xs.length ∧ i ≤ ys.length ∧ (i = xs.length ∨ i = ys.length)⟩
theorem turn_zipB {P : Program} {w : World} {K : PySem.W.Frag} {elts : List Expr} {kk : Nat} {tpos : Pos} {t u : Bool} {a b z TI TO i1 i2 : Addr} (D : ZipSep2 z TI TO i1 i2 [i1, a] [i2, b]) (n1 : a ≠ i1) (n2 : b ≠ i2) :
    Turn P w K (.Tuple elts kk tpos) (ItzB K t u a b) [z, TI, TO, i1, i2] z (fun i h => IsZip h z TI TO .none ∧ IsTupOf2 h TI (.ref i1) (.ref i2) ∧ (∃ x y, IsTupOf2 h TO x y) ∧ ItB t h i1 a i ∧ ItB u h i2 b i) where
  mem := by simp
  obj := fun i h st c hc => by
    obtain ⟨hz, hTI, ⟨x, y, hTO⟩, h1, h2⟩ := st
    have e' : c = z ∨ c = TI ∨ c = TO ∨ c = i1 ∨ c = i2 := by simpa using hc
    rcases e' with q | q | q | q | q
    · rw [q]; exact ⟨_, hz, fun v q => nomatch q⟩
    · rw [q]; exact ⟨_, hTI, fun v q => nomatch q⟩
    · rw [q]; exact ⟨_, hTO, fun v q => nomatch q⟩
    · rw [q]; exact h1.obj
    · rw [q]; exact h2.obj
  keep := fun i h h' st k => by
    obtain ⟨hz, hTI, ⟨x, y, hTO⟩, h1, h2⟩ := st
    exact ⟨k z (by simp) _ hz, k TI (by simp) _ hTI, ⟨x, y, k TO (by simp) _ hTO⟩, h1.at fun o q => k i1 (by simp) o q, h2.at fun o q => k i2 (by simp) o q⟩
  item := by
    intro X hP hw hK hc i pins s σ H E I hf st hg
    subst hP hw hK
    obtain ⟨hz, hTI, ⟨x0, y0, hTO⟩, h1, h2⟩ := st
    obtain ⟨xs, ys, x, y, hqx, hqy, hx, hy⟩ := hg
    obtain ⟨its, rv, p, _⟩ := inv_b I hqx
    obtain ⟨its2, rv2, p2, _⟩ := inv_b I hqy
    obtain ⟨u1, hu, ru⟩ := rv.get hx
    obtain ⟨u2, hu2, ru2⟩ := rv2.get hy
    have hzl : z < s.heap.objs.size := Heap.lt_size hz
    have l1 : i < its.toArray.size := by have := (List.getElem?_eq_some_iff.mp hu).1; simpa using this
    have l2 : i < its2.toArray.size := by have := (List.getElem?_eq_some_iff.mp hu2).1; simpa using this
    refine wpAny_pyNext_zipD2_item D (draws_b (A := X.A.in1) (show X.A.in1.handled = none from I.ok.hd hc) t i1 a n1 its.toArray) (draws_b (A := X.A.in1) (show X.A.in1.handled = none from I.ok.hd hc) u i2 b n2 its2.toArray) hz hTI hTO ⟨h1, p⟩ ⟨h2, p2⟩ l1 l2 fun w1 w2 h' tk e1 e2 z' TO' s1 s2 hT hsz hk => ?_
    have f1 : w1 = u1 := by
      have e1' : its[i]? = some w1 := by simpa using e1
      rw [hu] at e1'; exact (Option.some.inj e1').symm
    have f2 : w2 = u2 := by
      have e2' : its2[i]? = some w2 := by simpa using e2
      rw [hu2] at e2'; exact (Option.some.inj e2').symm
    subst f1 f2
    refine ⟨_, rfl, wpAny_letOwnedTupleGo_zip (s := { s with heap := h', toks := tk }) z' fun h'' z'' sb => ?_⟩
    have hT2 : h''.get? s.heap.objs.size = some { cls := .type "tuple", data := .seq #[w1, w2] } := (sb.2 _ (Nat.ne_of_gt hzl)).trans hT
    have new : ObjOk X.prog X.w (upd H s.heap.objs.size (.tup [x, y])) h'' s.heap.objs.size (.tup [x, y]) :=
      ⟨by show 2 ≤ sizeLine; decide, [w1, w2], .cons ru (.cons ru2 .nil), ⟨_, hT2, rfl, _, rfl⟩⟩
    have I1 : L2.Inv X pins σ (upd H s.heap.objs.size (.tup [x, y])) { s with heap := h'', toks := tk } :=
      I.turnedNew (t' := tk) (ch := [z, TI, TO, i1, i2]) (fun c o hb q => (sb.2 c (fun q' => hb (by simp [q']))).trans (hk c o (fun q' => hb (by simp [q'])) (fun q' => hb (by simp [q'])) (fun q' => hb (by simp [q'])) (fun q' => hb (by simp [q'])) q)) hf (Nat.le_refl _) new
    refine ⟨.ref s.heap.objs.size, _, I1, rfl, ⟨_, x, y, rfl, I.hok.fresh (Nat.le_refl _), rfl, fun l hl => by rw [inj_b I hl hqx]; exact hx, fun l hl => by rw [inj_b I hl hqy]; exact hy⟩, ⟨z'', ?_, ⟨w1, w2, ?_⟩, ?_, ?_⟩, fun c hcm => ?_⟩
    · exact (sb.2 _ D.TIz).trans (hk _ _ D.TIz D.TITO D.TIi1 D.TIi2 hTI)
    · exact (sb.2 _ D.TOz).trans TO'
    · exact s1.1.at fun o q => (sb.2 _ (Ne.symm D.zi1)).trans q
    · exact s2.1.at fun o q => (sb.2 _ (Ne.symm D.zi2)).trans q
    · have hlt : c < s.heap.objs.size := by
        have e' : c = z ∨ c = TI ∨ c = TO ∨ c = i1 ∨ c = i2 := by simpa using hcm
        rcases e' with q | q | q | q | q
        · rw [q]; exact hzl
        · rw [q]; exact Heap.lt_size hTI
        · rw [q]; exact Heap.lt_size hTO
        · rw [q]; obtain ⟨_, e1, _⟩ := h1.obj; exact Heap.lt_size e1
        · rw [q]; obtain ⟨_, e2, _⟩ := h2.obj; exact Heap.lt_size e2
      rw [upd_ne (Nat.ne_of_lt hlt)]
      exact (hf c hcm).1
  done := by
    intro X hP hw hK hc i pins s σ H E I hf st hg
    subst hP hw hK
    obtain ⟨hz, hTI, ⟨x0, y0, hTO⟩, h1, h2⟩ := st
    obtain ⟨xs, ys, hqx, hqy, hle1, hle2, hend⟩ := hg
    obtain ⟨its, rv, p, _⟩ := inv_b I hqx
    obtain ⟨its2, rv2, p2, _⟩ := inv_b I hqy
    have l1 := rv.length
    have l2 := rv2.length
    exact wpAny_pyNext_zipD2_end D (draws_b (A := X.A.in1) (show X.A.in1.handled = none from I.ok.hd hc) t i1 a n1 its.toArray) (draws_b (A := X.A.in1) (show X.A.in1.handled = none from I.ok.hd hc) u i2 b n2 its2.toArray) hz hTI hTO ⟨h1, p⟩ ⟨h2, p2⟩ (by simp; omega) (by simp; omega) (by simp; omega) fun h' tk hk => ⟨rfl, I.turnedL (t' := tk) (ch := [z, TI, TO, i1, i2]) (fun c o hb q =>
      hk c o (fun q' => hb (by simp [q'])) (fun q' => hb (by simp [q'])) (fun q' => hb (by simp [q'])) (fun q' => hb (by simp [q'])) q) hf⟩
  self := fun A i s Q E st h => wpAny_pyIter_zip st.1 h
def iZipB (K : PySem.W.Frag) (ta : TA) : TI := fun σ H R => ta σ H fun vs H1 => ∃ t u a b xs ys, vs = [.ref a, .ref b] ∧ SqB t K H1 a xs ∧ SqB u K H1 b ys ∧ R (ItzB K t u a b) H1
theorem pi_zipB {X : Cx} {e e2 : Expr} {ta : TA} {p pos tpos : Pos} {elts : List Expr} {kk : Nat} (hg : Gl X "zip") (hm : X.mg "zip" = none) (ha : PA X [e, e2] ta)
    (hs : starEach [e, e2] X.env = (false, eval e X.env) :: starEach [e2] X.env := by rfl) (hpl : (backTo pos (starEach [e2] X.env)).any (·.1) = false := by rfl) :
    PI X (.Tuple elts kk tpos) (.Call (.Name "zip" p) [e, e2] [] pos) (iZipB X.K ta) := by
  refine ⟨fun pins s σ H R I h => ?_⟩
  refine Call_ (ld_blt I hg hm PyProof.Rows.boot_zip (PyProof.Rows.callWith_type1 (thn (ha.run pos pins s σ H _ I h) fun us s1 ⟨vs, H1, I1, r1, q1⟩ => ?_) hs hpl))
  obtain ⟨t, u, a, b, xs, ys, ex, hqx, hqy, q⟩ := q1
  subst ex
  cases r1 with
  | cons r rr =>
    cases rr with
    | cons r' rr =>
      cases rr
      cases r
      cases r'
      have fresh5 : ∀ c, c ∈ [s1.heap.objs.size + 4, s1.heap.objs.size + 2, s1.heap.objs.size + 3, s1.heap.objs.size, s1.heap.objs.size + 1] → FpOk X pins H1 c := fun c hcm => by
        have e' : c = s1.heap.objs.size + 4 ∨ c = s1.heap.objs.size + 2 ∨ c = s1.heap.objs.size + 3 ∨ c = s1.heap.objs.size ∨ c = s1.heap.objs.size + 1 := by simpa using hcm
        have hle : s1.heap.objs.size ≤ c := by
          rcases e' with z | z | z | z | z
          · rw [z]; exact Nat.le_add_right _ _
          · rw [z]; exact Nat.le_add_right _ _
          · rw [z]; exact Nat.le_add_right _ _
          · rw [z]; exact Nat.le_refl _
          · rw [z]; exact Nat.le_add_right _ _
        exact I1.fpOk hle (I1.hok.fresh hle)
      obtain ⟨its, rv, p1, la⟩ := inv_b I1 hqx
      obtain ⟨its2, rv2, p2, lb⟩ := inv_b I1 hqy
      refine zip_begins2 (begins_b t a its.toArray) (begins_b u b its2.toArray) p1 p2 fun h' hz hTI hTO h1 h2 hsz hk => wpAny_pyIter_zip hz ?_
      have I2 : L2.Inv X pins σ H1 { s1 with heap := h' } := I1.kept (t' := s1.toks) hk
      have n2 : b ≠ s1.heap.objs.size + 1 := Nat.ne_of_lt (Nat.lt_succ_of_lt lb)
      exact ⟨s1.heap.objs.size + 4, [s1.heap.objs.size + 4, s1.heap.objs.size + 2, s1.heap.objs.size + 3, s1.heap.objs.size, s1.heap.objs.size + 1], _, _, H1, rfl, I2,
        turn_zipB (t := t) (u := u) (zip_sep2 (fp1 := [a]) (fp2 := [b]) (fun c hc => by rw [List.mem_singleton.mp hc]; exact la) (fun c hc => by rw [List.mem_singleton.mp hc]; exact lb)) (Nat.ne_of_lt la) n2, ⟨hz, hTI, ⟨_, _, hTO⟩, itB_new h1, itB_new h2⟩, fresh5, q⟩

/-! ### enumerate -/
def IteB (K : PySem.W.Frag) (t : Bool) (a : Addr) : It :=
  ⟨fun i H => ∃ (xs : List V) (x : V), SqB t K H a xs ∧ xs[i]? = some x, fun i H v H' => ∃ T x, v = .ref T ∧ H T = none ∧ H' = upd H T (.tup [.int (i : Nat), x]) ∧ ∀ xs, SqB t K H a xs → xs[i]? = some x, fun i H => ∃ xs : List V, SqB t K H a xs ∧ xs.length = i⟩
theorem turn_enumB {P : Program} {w : World} {K : PySem.W.Frag} {elts : List Expr} {kk : Nat} {tpos : Pos} {t : Bool} (a e it : Addr) (na : a ≠ it) (nea : e ≠ a) :
    Turn P w K (.Tuple elts kk tpos) (IteB K t a) [e, it] e (fun i h => (∃ old, IsEnum h e it ((i : Nat) : Int) old) ∧ ItB t h it a i ∧ e ≠ it) where
  mem := by simp
  obj := fun i h st b hb => by
    obtain ⟨⟨old, he⟩, hit, _⟩ := st
    have e' : b = e ∨ b = it := by simpa using hb
    rcases e' with z | z
    · rw [z]; exact ⟨_, he, fun v q => nomatch q⟩
    · rw [z]; exact hit.obj
  keep := fun i h h' st k => let ⟨⟨old, he⟩, hi, hne⟩ := st; ⟨⟨old, k e (by simp) _ he⟩, hi.at fun o q => k it (by simp) o q, hne⟩
  item := by
    intro X hP hw hK hc i pins s σ H E I hf st hg
    subst hP hw hK
    obtain ⟨⟨old, he⟩, hit, hne⟩ := st
    obtain ⟨xs, x, hq, hx⟩ := hg
    obtain ⟨its, rv, p, hz⟩ := inv_b I hq
    obtain ⟨u, hu, ru⟩ := rv.get hx
    have hel : e < s.heap.objs.size := Heap.lt_size he
    have hil : it < s.heap.objs.size := by obtain ⟨_, q, _⟩ := hit.obj; exact Heap.lt_size q
    have l1 : i < its.toArray.size := by have := (List.getElem?_eq_some_iff.mp hu).1; simpa using this
    refine wpAny_pyNext_enum_itemC (draws_b (A := X.A.in1) (show X.A.in1.handled = none from I.ok.hd hc) t it a na its.toArray) he ⟨hit, p⟩ l1 hne (by simp [hne, nea]) fun w1 h' tk e1 ho s1 hT hsz hk => ?_
    have f1 : w1 = u := by
      have e1' : its[i]? = some w1 := by simpa using e1
      rw [hu] at e1'; exact (Option.some.inj e1').symm
    subst f1
    refine ⟨_, rfl, wpAny_letOwnedTupleGo_enum (s := { s with heap := h', toks := tk + 1 }) ho fun h'' he' sb => ?_⟩
    have hT2 : h''.get? s.heap.objs.size = some { cls := .type "tuple", data := .seq #[.int i tk, w1] } := (sb.2 _ (Nat.ne_of_gt hel)).trans hT
    have new : ObjOk X.prog X.w (upd H s.heap.objs.size (.tup [.int (i : Nat), x])) h'' s.heap.objs.size (.tup [.int (i : Nat), x]) :=
      ⟨by show 2 ≤ sizeLine; decide, [.int i tk, w1], .cons ⟨_, rfl⟩ (.cons ru .nil), ⟨_, hT2, rfl, _, rfl⟩⟩
    have I1 : L2.Inv X pins σ (upd H s.heap.objs.size (.tup [.int (i : Nat), x])) { s with heap := h'', toks := tk + 1 } :=
      I.turnedNew (t' := tk + 1) (ch := [e, it]) (fun b ob hb q => (sb.2 b (fun z => hb (by simp [z]))).trans (hk b ob (fun z => hb (by simp [z])) (fun z => hb (by simp [z])) q)) hf (Nat.le_refl _) new
    refine ⟨.ref s.heap.objs.size, _, I1, rfl, ⟨_, x, rfl, I.hok.fresh (Nat.le_refl _), rfl, fun ys hy => by rw [inj_b I hy hq]; exact hx⟩, ⟨⟨w1, ?_⟩, s1.1.at fun o q => (sb.2 it (Ne.symm hne)).trans q, hne⟩, fun b hb => ?_⟩
    · have e1 : ((i + 1 : Nat) : Int) = (i : Int) + 1 := by omega
      rw [e1]; exact he'
    · have hb' : b < s.heap.objs.size := by
        have e' : b = e ∨ b = it := by simpa using hb
        rcases e' with z | z
        · rw [z]; exact hel
        · rw [z]; exact hil
      rw [upd_ne (Nat.ne_of_lt hb')]
      exact (hf b hb).1
  done := by
    intro X hP hw hK hc i pins s σ H E I hf st hg
    subst hP hw hK
    obtain ⟨⟨old, he⟩, hit, hne⟩ := st
    obtain ⟨xs, hq, hx⟩ := hg
    obtain ⟨its, rv, p, hz⟩ := inv_b I hq
    have hl := rv.length
    have e1 : i = its.toArray.size := by simp; omega
    subst e1
    exact wpAny_pyNext_enum_endD (draws_b (A := X.A.in1) (show X.A.in1.handled = none from I.ok.hd hc) t it a na its.toArray) he ⟨hit, p⟩ fun h' eb => ⟨rfl, I.turnedL (t' := s.toks) (ch := [e, it]) (fun b o hb q => eb b o (fun z => hb (by simp [z])) q) hf⟩
  self := fun A i s Q E st h => let ⟨⟨_, he⟩, _⟩ := st; wpAny_pyIter_enum he h
def iEnumB (K : PySem.W.Frag) (ta : TA) : TI := fun σ H R => ta σ H fun vs H1 => ∃ t a xs, vs = [.ref a] ∧ SqB t K H1 a xs ∧ R (IteB K t a) H1

set_option maxHeartbeats 4000000 in
theorem meets_enumerate_new1B {v : Value} {o : Obj} {H : Heap → Prop} (B : Begins v o H) :
    Meets (Builtin.«enumerate.__new__» ⟨[.type "enumerate", v], []⟩) (fun _ R s => H s.heap ∧
      R (.ok (.ret (.ref (s.heap.push o).objs.size))) { s with heap := (s.heap.push o).push { cls := .type "enumerate", data := .fields #[.none, .bool false, .ref s.heap.objs.size, rawInt 0, .none, .none] } }) :=
  .of_wp fun prog w A R s h => by
    obtain ⟨hp, g, d, tk, os⟩ := s; obtain ⟨h1, h⟩ := h
    have hsub := sub_enumerate
    have q1 : ∀ {A' : Around} {E : Value → Shared → Prop} {Q : Value → Shared → Prop}, Q (.ref hp.objs.size) ⟨hp.push o, g, d, tk, os⟩ → wpAny (model prog w) A' (pyIter v) Q E ⟨hp, g, d, tk, os⟩ :=
      fun q => B.iter prog w _ _ ⟨hp, g, d, tk, os⟩ _ h1 q
    wp_walk using q1
    refine wpAny_stack_any fun st => wpAny_pure ?_
    split
    · rename_i c _ _ _ _ _
      cases (c == Value.type "enumerate")
      · wp_walk using q1
        exact ⟨_, rfl, h⟩
      · wp_walk using q1
        exact ⟨_, rfl, h⟩
    · wp_walk using q1
      exact ⟨_, rfl, h⟩
theorem enum_begins1 {prog : Program} {w : World} {A : Around} {E : Value → Shared → Prop} {s : Shared} {v : Value} {o : Obj} {H : Heap → Prop} {Q : Value → Shared → Prop} (B : Begins v o H) (h1 : H s.heap)
    (h : ∀ h', IsEnum h' (s.heap.objs.size + 1) s.heap.objs.size 0 .none → h'.get? s.heap.objs.size = some o → h'.objs.size = s.heap.objs.size + 2 →
      (∀ b o, s.heap.get? b = some o → h'.get? b = some o) → Q (.ref (s.heap.objs.size + 1)) { s with heap := h' }) :
    wpAny (model prog w) A (call (.type "enumerate") [v]) Q E s := by
  refine callType_new F.called_enumerate (by decide) (F.typeCall_enumerate_1 _) (F.newCall_enumerate_1 _) (fun obj => F.args_object_init_2 obj _) F.entry_enumerate_new
    (meets_enumerate_new1B B) ⟨h1, ?_⟩
  have hz : (s.heap.push o).objs.size = s.heap.objs.size + 1 := Heap.size_push ..
  show _ ∧ _
  rw [hz]
  have he : IsEnum ((s.heap.push o).push { cls := .type "enumerate", data := .fields #[.none, .bool false, .ref s.heap.objs.size, rawInt 0, .none, .none] }) (s.heap.objs.size + 1) s.heap.objs.size 0 .none := by
    have := Heap.get?_push_size (s.heap.push o) (o := { cls := .type "enumerate", data := .fields #[.none, .bool false, .ref s.heap.objs.size, rawInt 0, .none, .none] }) rfl
    rw [hz] at this; exact this
  refine ⟨⟨_, he, rfl⟩, h _ he (Heap.get?_push_of_some _ (Heap.get?_push_size _ B.free)) (by rw [Heap.size_push, hz]) fun b o x => Heap.get?_push_of_some _ (Heap.get?_push_of_some _ x)⟩
theorem pi_enumB {X : Cx} {e : Expr} {ta : TA} {p pos tpos : Pos} {elts : List Expr} {kk : Nat} (hg : Gl X "enumerate") (hm : X.mg "enumerate" = none) (ha : PA X [e] ta) (hs : starEach [e] X.env = [(false, eval e X.env)] := by rfl) :
    PI X (.Tuple elts kk tpos) (.Call (.Name "enumerate" p) [e] [] pos) (iEnumB X.K ta) := by
  refine ⟨fun pins s σ H R I h => ?_⟩
  refine Call_ (ld_blt I hg hm boot_enumerate (PyProof.Rows.callWith_type1 (thn (ha.run pos pins s σ H _ I h) fun us s1 ⟨vs, H1, I1, r1, q1⟩ => ?_) hs rfl))
  obtain ⟨t, a, xs, ex, hq, q⟩ := q1
  subst ex
  cases r1 with
  | cons r rr =>
    cases rr
    cases r
    obtain ⟨its, rv, p', la⟩ := inv_b I1 hq
    refine enum_begins1 (begins_b t a its.toArray) p' fun h' he hit hsz hk => wpAny_pyIter_enum he ?_
    have I2 : L2.Inv X pins σ H1 { s1 with heap := h' } := I1.kept (t' := s1.toks) hk
    refine ⟨s1.heap.objs.size + 1, [s1.heap.objs.size + 1, s1.heap.objs.size], _, _, H1, rfl, I2, turn_enumB (t := t) a (s1.heap.objs.size + 1) s1.heap.objs.size (Nat.ne_of_lt la) (Nat.ne_of_gt (Nat.lt_succ_of_lt la)), ⟨⟨.none, he⟩, itB_new hit, Nat.succ_ne_self _⟩, fun b hb => ?_, q⟩
    have e' : b = s1.heap.objs.size + 1 ∨ b = s1.heap.objs.size := by simpa using hb
    have hle : s1.heap.objs.size ≤ b := by
      rcases e' with z | z
      · rw [z]; exact Nat.le_add_right _ _
      · rw [z]; exact Nat.le_refl _
    exact I1.fpOk hle (I1.hok.fresh hle)

/-! ### by data -/
section
variable {Z : Wd} {X : Cx} {e a b c : Expr} {pos p tpos : Pos} {elts : List Expr} {kk : Nat}
theorem sqb_of {H : Hp} {N : List Addr} {v : V} {d : D} {ds : List D} {K : PySem.W.Frag} (r : Rep Z (avoid H N) v d) (h : lt? d = some ds) : ∃ (t : Bool) (l : Addr) (xs : List V), v = .ref l ∧ RepL Z (avoid H N) xs ds ∧ ∀ H2, Same (avoid H N) H2 → SqB t K H2 l xs := by
  unfold lt? at h
  split at h
  · cases h
    obtain ⟨a, xs, rfl, ea, rr⟩ := r.tup_inv
    exact ⟨true, a, xs, rfl, rr, fun H2 sm => SqT.of (sm _ _ ea)⟩
  · cases h
    obtain ⟨a, xs, rfl, ea, rr⟩ := r.lst_inv
    exact ⟨false, a, xs, rfl, rr, fun H2 sm => SqL.of (sm _ _ ea)⟩
  · cases h
theorem yl_zip {H : Hp} {N : List Addr} {K : PySem.W.Frag} {t u : Bool} {l m : Addr} {xs ys : List V} {as bs : List D} (ra : RepL Z (avoid H N) xs as) (rb : RepL Z (avoid H N) ys bs) (ha : ∀ H2, Same (avoid H N) H2 → SqB t K H2 l xs) (hb : ∀ H2, Same (avoid H N) H2 → SqB u K H2 m ys) :
    Yl Z (ItzB K t u l m) (avoid H N) ((as.zip bs).map fun p => D.tup [p.1, p.2]) := fun H2 N2 tk sm => by
  have sm2 : Same (avoid H N) H2 := sm.trans avoid_le
  refine ⟨fun i d hd => ?_, xs, ys, ha H2 sm2, hb H2 sm2, ?_⟩
  · rw [List.getElem?_map] at hd
    cases ez : (as.zip bs)[i]? with
    | none => rw [ez] at hd; cases hd
    | some pr =>
      rw [ez] at hd
      cases hd
      obtain ⟨e1, e2⟩ := List.getElem?_zip_eq_some.mp ez
      obtain ⟨x, hx, rx⟩ := ra.get e1
      obtain ⟨y, hy, ry⟩ := rb.get e2
      refine ⟨⟨xs, ys, x, y, ha H2 sm2, hb H2 sm2, hx, hy⟩, fun v H' yl => ?_⟩
      obtain ⟨T, x', y', rfl, hT, rfl, g1, g2⟩ := yl
      have k1 := g1 xs (ha H2 sm2)
      have k2 := g2 ys (hb H2 sm2)
      rw [hx] at k1
      rw [hy] at k2
      cases k1
      cases k2
      refine ⟨same_upd hT, ?_⟩
      exact rep_new (tk.no hT) hT (.tup (.cons (rx.mono sm) (.cons (ry.mono sm) .nil)))
  · rw [List.length_map, List.length_zip, ra.length, rb.length]
    omega
theorem di_zip {ma mb : E} (hg : Gl X "zip") (hm : X.mg "zip" = none) (ha : PE X a (tD Z ma)) (hb : PE X b (tD Z mb)) (hs : starEach [a, b] X.env = (false, eval a X.env) :: starEach [b] X.env := by rfl) (hs2 : starEach [b] X.env = (false, eval b X.env) :: starEach [] X.env := by rfl) (hpl : (backTo pos (starEach [b] X.env)).any (·.1) = false := by rfl) :
    PI X (.Tuple elts kk tpos) (.Call (.Name "zip" p) [a, b] [] pos) (tDI Z (iZip ma mb)) := PI.imp (pi_zipB hg hm (da_cons ha (da_cons hb da_nil hs2) hs) hs hpl) fun σ H R ⟨C, L, ρ, ds, ρ', s, hm, q⟩ => by
  obtain ⟨x, ρ1, h1, hm⟩ := bnd_inv hm
  obtain ⟨y, ρ2, h2, hm⟩ := bnd_inv hm
  refine ⟨C, L, ρ, [x, y], ρ2, s, args2 h1 h2, fun vs H1 L1 sm1 s1 r => ?_⟩
  obtain ⟨v, w, rfl, r1, r2⟩ := r.two
  cases e1 : lt? x with
  | none => rw [e1] at hm; cases hm
  | some as =>
    cases e2 : lt? y with
    | none => rw [e1, e2] at hm; cases hm
    | some bs =>
      rw [e1, e2] at hm
      cases hm
      obtain ⟨t, l, xs, rfl, ra, ha⟩ := sqb_of (K := X.K) r1 e1
      obtain ⟨u, m, ys, rfl, rb, hb⟩ := sqb_of (K := X.K) r2 e2
      exact ⟨t, u, l, m, xs, ys, rfl, ha H1 avoid_le, hb H1 avoid_le, q _ H1 L1 sm1 s1 (yl_zip ra rb ha hb)⟩
theorem yl_enum {H : Hp} {N : List Addr} {K : PySem.W.Frag} {t : Bool} {l : Addr} {xs : List V} {as : List D} (ra : RepL Z (avoid H N) xs as) (ha : ∀ H2, Same (avoid H N) H2 → SqB t K H2 l xs) :
    Yl Z (IteB K t l) (avoid H N) (as.zipIdx.map fun p => D.tup [.int p.2, p.1]) := fun H2 N2 tk sm => by
  have sm2 : Same (avoid H N) H2 := sm.trans avoid_le
  refine ⟨fun i d hd => ?_, xs, ha H2 sm2, ?_⟩
  · rw [List.getElem?_map] at hd
    cases ez : as.zipIdx[i]? with
    | none => rw [ez] at hd; cases hd
    | some pr =>
      rw [ez] at hd
      cases hd
      rw [List.getElem?_zipIdx] at ez
      cases e1 : as[i]? with
      | none => rw [e1] at ez; cases ez
      | some d1 =>
        rw [e1] at ez
        cases ez
        obtain ⟨x, hx, rx⟩ := ra.get e1
        refine ⟨⟨xs, x, ha H2 sm2, hx⟩, fun v H' yl => ?_⟩
        obtain ⟨T, x', rfl, hT, rfl, g1⟩ := yl
        have k1 := g1 xs (ha H2 sm2)
        rw [hx] at k1
        cases k1
        refine ⟨same_upd hT, ?_⟩
        have e0 : ((0 + i : Nat) : Int) = (i : Int) := by omega
        dsimp only
        rw [e0]
        exact rep_new (tk.no hT) hT (.tup (.cons (.int _) (.cons (rx.mono sm) .nil)))
  · rw [List.length_map, List.length_zipIdx, ra.length]
theorem di_enum {ma : E} (hg : Gl X "enumerate") (hm : X.mg "enumerate" = none) (ha : PE X a (tD Z ma)) (hs : starEach [a] X.env = [(false, eval a X.env)] := by rfl) :
    PI X (.Tuple elts kk tpos) (.Call (.Name "enumerate" p) [a] [] pos) (tDI Z (Pd.iEnum ma)) := PI.imp (pi_enumB hg hm (da_cons ha da_nil hs) hs) fun σ H R ⟨C, L, ρ, ds, ρ', s, hm, q⟩ => by
  obtain ⟨x, ρ1, h1, hm⟩ := bnd_inv hm
  refine ⟨C, L, ρ, [x], ρ1, s, args_c h1 rfl, fun vs H1 L1 sm1 s1 r => ?_⟩
  obtain ⟨v, rfl, r1⟩ := r.one
  have go : ∀ as, lt? x = some as → Pd.ret (as.zipIdx.map fun p => D.tup [.int p.2, p.1]) ρ1 = some (ds, ρ') → iEnumB X.K (fun σ H Q => Q [v] H) σ H1 R := fun as e1 hm => by
    cases hm
    obtain ⟨t, l, xs, rfl, ra, ha⟩ := sqb_of (K := X.K) r1 e1
    exact ⟨t, l, xs, rfl, ha H1 avoid_le, q _ H1 L1 sm1 s1 (yl_enum ra ha)⟩
  cases x with
  | tup as => exact go as rfl hm
  | lst as => exact go as rfl hm
  | _ => cases hm
theorem di_down {tg : Expr} {ma mb mc : E} (hg : Gl X "range") (hm : X.mg "range" = none) (ha : PA X [a, b, c] (tDs Z (args [ma, mb, mc]))) (hs : starEach [a, b, c] X.env = (false, eval a X.env) :: starEach [b, c] X.env := by rfl) (hpl : (backTo pos (starEach [b, c] X.env)).any (·.1) = false := by rfl) :
    PI X tg (.Call (.Name "range" p) [a, b, c] [] pos) (tDI Z (iDown ma mb mc)) := PI.imp (pi_range3 hg hm ha hs hpl) fun σ H R ⟨C, L, ρ, ds, ρ', s, hm, q⟩ => by
  obtain ⟨x, ρ1, h1, hm⟩ := bnd_inv hm
  obtain ⟨y, ρ2, h2, hm⟩ := bnd_inv hm
  obtain ⟨z, ρ3, h3, hm⟩ := bnd_inv hm
  refine ⟨C, L, ρ, [x, y, z], ρ3, s, args_c h1 (args2 h2 h3), fun vs H1 L1 sm1 s1 r => ?_⟩
  rename_i hmA hmB hmC
  clear hmA hmB hmC
  split at hm
  · rename_i n
    by_cases hn : 0 ≤ n ∧ n ≤ 2 ^ 40
    · rw [if_pos hn] at hm
      cases hm
      cases r with
      | cons r1 r =>
        obtain ⟨v, w, rfl, r2, r3⟩ := r.two
        rw [r1.int_inv, r2.int_inv, r3.int_inv]
        refine ⟨n, 0, -1, (n - 0).toNat, rfl, RgC.neg (by omega) (by omega) (by omega) (by omega), q _ H1 L1 sm1 s1 fun H2 N2 tk sm => ⟨fun i d hd => ?_, ?_⟩⟩
        · rw [List.getElem?_map] at hd
          by_cases hi : i < n.toNat
          · rw [List.getElem?_range hi] at hd
            cases hd
            refine ⟨by show i < (n - 0).toNat; omega, fun x H' y => ?_⟩
            obtain ⟨rfl, rfl⟩ := y
            refine ⟨Same.refl _, ?_⟩
            have : n + (i : Int) * -1 = n - i := by omega
            rw [this]
            exact .int _
          · rw [List.getElem?_eq_none (by rw [List.length_range]; omega)] at hd
            cases hd
        · show (n - 0).toNat ≤ _
          rw [List.length_map, List.length_range]
          omega
    · rw [if_neg hn] at hm; cases hm
  · cases hm
end
end Pd
end
section
set_option Elab.async false
set_option linter.all false
set_option maxRecDepth 100000
set_option maxHeartbeats 4000000
/-! PdDict: dicts whose keys are tuples (nested), by their raw object. -/
namespace Pd
open PySem PySem.Spec PyProof.Rows L2

/-! ### keys -/
mutual
theorem beq_key : ∀ d e : D, isKey d = true → isKey e = true → NestedKey.beq (toKey d) (toKey e) = eqv d e
  | .int i, e, h1, h2 => by cases e <;> first | (simp [isKey] at h2; done) | simp [toKey, NestedKey.beq, eqv]
  | .tup ds, e, h1, h2 => by
    cases e with
    | tup es =>
      rw [toKey, toKey, NestedKey.beq, eqv]
      exact beqs_key ds es (by rw [isKey] at h1; exact h1) (by rw [isKey] at h2; exact h2)
    | _ => first | (simp [isKey] at h2; done) | simp [toKey, NestedKey.beq, eqv]
  | .non, _, h, _ => by simp [isKey] at h
  | .bl _, _, h, _ => by simp [isKey] at h
  | .rb _, _, h, _ => by simp [isKey] at h
  | .lst _, _, h, _ => by simp [isKey] at h
  | .dic _, _, h, _ => by simp [isKey] at h
  | .ins _ _, _, h, _ => by simp [isKey] at h
theorem beqs_key : ∀ ds es : List D, isKeys ds = true → isKeys es = true → NestedKey.beqAll (toKeys ds) (toKeys es) = eqvs ds es
  | [], [], _, _ => by simp [toKeys, NestedKey.beqAll, eqvs]
  | [], _ :: _, _, _ => by simp [toKeys, NestedKey.beqAll, eqvs]
  | _ :: _, [], _, _ => by simp [toKeys, NestedKey.beqAll, eqvs]
  | d :: ds, e :: es, h1, h2 => by
    rw [isKeys, Bool.and_eq_true] at h1 h2
    rw [toKeys, toKeys, NestedKey.beqAll, eqvs, beq_key d e h1.1 h2.1, beqs_key ds es h1.2 h2.2]
end
theorem kOk_key {d : D} (h : kOk d = true) : isKey d = true := by
  cases d <;> first | (simp [kOk] at h; done) | (rw [isKey]; exact h)
theorem key_eq {d e : D} (h1 : kOk d = true) (h2 : kOk e = true) : decide (toKey d = toKey e) = eqv d e := by
  rw [NestedKey.decide_eq, beq_key d e (kOk_key h1) (kOk_key h2)]
mutual
theorem depth_key : ∀ d : D, isKey d = true → (toKey d).depth = depth d
  | .int i, h1 => by simp [toKey, NestedKey.depth, depth]
  | .tup ds, h1 => by rw [toKey, NestedKey.depth, depth, depths_key ds (by rw [isKey] at h1; exact h1)]
  | .non, h => by simp [isKey] at h
  | .bl _, h => by simp [isKey] at h
  | .rb _, h => by simp [isKey] at h
  | .lst _, h => by simp [isKey] at h
  | .dic _, h => by simp [isKey] at h
  | .ins _ _, h => by simp [isKey] at h
theorem depths_key : ∀ ds : List D, isKeys ds = true → NestedKey.depthAll (toKeys ds) = depths ds
  | [], _ => by simp [toKeys, NestedKey.depthAll, depths]
  | d :: ds, h1 => by
    rw [isKeys, Bool.and_eq_true] at h1
    rw [toKeys, NestedKey.depthAll, depths, depth_key d h1.1, depths_key ds h1.2]
end
section
variable {Z : Wd} {P : Program} {w : World} {H F : Hp} {h : Heap}
mutual
theorem nested_of (hok : HOk P w H h) (sm : Same F H) : ∀ (d : D) (v : V) (u : Value), isKey d = true → Rep Z F v d → RelV v u → NestedIs h (toKey d) u
  | .int i, v, u, hk, r, ru => by
    rw [r.int_inv] at ru
    obtain ⟨t, rfl⟩ := ru
    rw [toKey]
    exact .int i t
  | .tup ds, v, u, hk, r, ru => by
    obtain ⟨a, xs, rfl, ea, rs⟩ := r.tup_inv
    cases ru
    obtain ⟨_, its, rv, o, h1, h2, n, h3⟩ := (show ObjOk P w H h a (.tup xs) from hok a _ (sm _ _ ea))
    rw [toKey]
    exact .tup h1 h2 h3 (by simpa using nesteds_of hok sm ds xs its (by rw [isKey] at hk; exact hk) rs rv)
  | .non, _, _, hk, _, _ => by simp [isKey] at hk
  | .bl _, _, _, hk, _, _ => by simp [isKey] at hk
  | .rb _, _, _, hk, _, _ => by simp [isKey] at hk
  | .lst _, _, _, hk, _, _ => by simp [isKey] at hk
  | .dic _, _, _, hk, _, _ => by simp [isKey] at hk
  | .ins _ _, _, _, hk, _, _ => by simp [isKey] at hk
theorem nesteds_of (hok : HOk P w H h) (sm : Same F H) : ∀ (ds : List D) (vs : List V) (us : List Value), isKeys ds = true → RepL Z F vs ds → Vals vs us → NestedAll h (toKeys ds) us
  | [], _, _, _, r, ru => by
    cases r
    cases ru
    rw [toKeys]
    exact .nil
  | d :: ds, _, _, hk, r, ru => by
    cases r with
    | cons r1 r2 =>
      cases ru with
      | cons u1 u2 =>
        rw [isKeys, Bool.and_eq_true] at hk
        rw [toKeys]
        exact .cons (nested_of hok sm d _ _ hk.1 r1 u1) (nesteds_of hok sm ds _ _ hk.2 r2 u2)
end
theorem is_key (hok : HOk P w H h) (sm : Same F H) {d : D} {a : Addr} (h1 : kOk d = true) (h2 : depth d ≤ 8) (r : Rep Z F (.ref a) d) : (nestedKind P w).is h (toKey d) a :=
  ⟨nested_of hok sm d _ _ (kOk_key h1) r rfl, by rw [depth_key d (kOk_key h1)]; exact h2⟩

/-! ### entries -/
theorem RepD.length {F : Hp} : ∀ {xs : List (NestedKey × Addr × Value)} {kvs : List (D × D)}, RepD Z F xs kvs → xs.length = kvs.length
  | _, _, .nil => rfl
  | _, _, .cons _ _ _ _ _ _ r => congrArg (· + 1) (RepD.length r)
theorem RepD.is (hok : HOk P w H h) (sm : Same F H) : ∀ {xs : List (NestedKey × Addr × Value)} {kvs : List (D × D)}, RepD Z F xs kvs → ∀ x ∈ xs, (nestedKind P w).is h x.1 x.2.1
  | _, _, .nil, x, hx => by cases hx
  | _, _, .cons e h1 h2 r _ _ rs, x, hx => by
    rcases List.mem_cons.mp hx with rfl | hx
    · subst e; exact is_key hok sm h1 h2 r
    · exact RepD.is hok sm rs x hx
theorem RepD.keys {F : Hp} : ∀ {xs : List (NestedKey × Addr × Value)} {kvs : List (D × D)}, RepD Z F xs kvs → RepL Z F (xs.map fun x => V.ref x.2.1) (kvs.map (·.1))
  | _, _, .nil => .nil
  | _, _, .cons _ _ _ r _ _ rs => .cons r (RepD.keys rs)
/-- what stands at a key -/
theorem RepD.get {F : Hp} {k : D} (hk : kOk k = true) : ∀ {xs : List (NestedKey × Addr × Value)} {kvs : List (D × D)}, RepD Z F xs kvs →
    (∃ d p w, dget kvs k = some d ∧ atKey xs (toKey k) = some p ∧ RelV w p.2 ∧ Rep Z F w d) ∨ (dget kvs k = none ∧ atKey xs (toKey k) = none)
  | _, _, .nil => .inr ⟨rfl, rfl⟩
  | _, _, @RepD.cons _ _ k' a u w kd vd xs kvs e h1 h2 r rv rw' rs => by
    subst e
    have ek := key_eq h1 hk
    unfold dget atKey
    rw [List.find?_cons, List.find?_cons]
    dsimp only
    rw [ek]
    cases eqv kd k with
    | true => exact .inl ⟨vd, (a, u), w, rfl, rfl, rv, rw'⟩
    | false => exact RepD.get hk rs
theorem dhas_get {kvs : List (D × D)} {k : D} : dhas kvs k = (dget kvs k).isSome := by
  induction kvs with
  | nil => rfl
  | cons p kvs ih =>
    unfold dhas dget at *
    rw [List.any_cons, List.find?_cons, ih]
    cases eqv p.1 k <;> rfl
theorem RepD.map_put {F : Hp} {k v : D} {x : V} {u : Value} (hk : kOk k = true) (rx : RelV x u) (rv : Rep Z F x v) : ∀ {xs : List (NestedKey × Addr × Value)} {kvs : List (D × D)}, RepD Z F xs kvs →
    RepD Z F (xs.map (putAt (toKey k) u)) (kvs.map fun p => if eqv p.1 k then (p.1, v) else p)
  | _, _, .nil => .nil
  | _, _, @RepD.cons _ _ k' a' u' w' kd vd xs kvs e h1 h2 r rv' rw' rs => by
    subst e
    have ih := RepD.map_put hk rx rv rs
    rw [List.map_cons, List.map_cons]
    have ek := key_eq h1 hk
    unfold putAt at ih ⊢
    dsimp only
    by_cases z : toKey kd = toKey k
    · rw [decide_eq_true z] at ek
      rw [if_pos z, if_pos ek.symm]
      exact .cons rfl h1 h2 r rx rv ih
    · rw [decide_eq_false z] at ek
      rw [if_neg z, if_neg (by rw [← ek]; exact Bool.false_ne_true)]
      exact .cons rfl h1 h2 r rv' rw' ih
theorem RepD.snoc {F : Hp} {k v : D} {a : Addr} {x : V} {u : Value} (hk : kOk k = true) (hd : depth k ≤ 8) (ra : Rep Z F (.ref a) k) (rx : RelV x u) (rv : Rep Z F x v) : ∀ {xs : List (NestedKey × Addr × Value)} {kvs : List (D × D)}, RepD Z F xs kvs →
    RepD Z F (xs ++ [(toKey k, a, u)]) (kvs ++ [(k, v)])
  | _, _, .nil => .cons rfl hk hd ra rx rv .nil
  | _, _, .cons e h1 h2 r rv' rw' rs => .cons e h1 h2 r rv' rw' (RepD.snoc hk hd ra rx rv rs)
theorem RepD.has {F : Hp} {k : D} (hk : kOk k = true) {xs : List (NestedKey × Addr × Value)} {kvs : List (D × D)} (r : RepD Z F xs kvs) : (atKey xs (toKey k)).isSome = dhas kvs k := by
  rw [dhas_get]
  rcases r.get hk with ⟨d, p, w, h1, h2, _⟩ | ⟨h1, h2⟩
  · rw [h1, h2]; rfl
  · rw [h1, h2]; rfl
theorem RepD.put {F : Hp} {k v : D} {a : Addr} {x : V} {u : Value} (hk : kOk k = true) (hd : depth k ≤ 8) (ra : Rep Z F (.ref a) k) (rx : RelV x u) (rv : Rep Z F x v) {xs : List (NestedKey × Addr × Value)} {kvs : List (D × D)} (r : RepD Z F xs kvs) :
    RepD Z F (storedH xs (toKey k) a u) (dput kvs k v) := by
  unfold storedH dput
  rw [r.has hk]
  by_cases hh : dhas kvs k = true
  · rw [if_pos hh, if_pos hh]
    exact r.map_put hk rx rv
  · rw [if_neg hh, if_neg hh]
    exact r.snoc hk hd ra rx rv
theorem RepD.drop {F : Hp} {k : D} (hk : kOk k = true) : ∀ {xs : List (NestedKey × Addr × Value)} {kvs : List (D × D)}, RepD Z F xs kvs → RepD Z F (withoutH xs (toKey k)) (ddrop kvs k)
  | _, _, .nil => .nil
  | _, _, @RepD.cons _ _ k' a' u' w' kd vd xs kvs e h1 h2 r rv' rw' rs => by
    subst e
    have ih := RepD.drop hk rs
    unfold withoutH ddrop at ih ⊢
    rw [List.filter_cons, List.filter_cons]
    have ek := key_eq h1 hk
    dsimp only
    by_cases z : toKey kd = toKey k
    · rw [decide_eq_true z] at ek
      rw [if_neg (by simp [z]), if_neg (by rw [← ek]; simp)]
      exact ih
    · rw [decide_eq_false z] at ek
      rw [if_pos (by simp [z]), if_pos (by rw [← ek]; rfl)]
      exact .cons rfl h1 h2 r rv' rw' ih
theorem dput_length {kvs : List (D × D)} {k v : D} : (dput kvs k v).length ≤ kvs.length + 1 := by
  unfold dput
  split
  · rw [List.length_map]; omega
  · rw [List.length_append]; exact Nat.le_refl _
theorem ddrop_length {kvs : List (D × D)} {k : D} : (ddrop kvs k).length ≤ kvs.length := List.length_filter_le _ _

/-! ### a dict as it stands -/
theorem dic_of (hok : HOk P w H h) (sm : Same F H) (hP : P = Z.P) (hw : w = Z.w) {l : Addr} {ho : HO} {kvs : List (D × D)} (e : H l = some ho) (r : RepO Z F l ho (.dic kvs)) :
    ∃ xs, (l == sysModules) = false ∧ h.DictOfH (nestedKind P w) l xs ∧ RepD Z F xs kvs ∧ kvs.length ≤ 1000000 ∧ ∃ o, ho = pinO l o ∧ h.get? l = some o := by
  subst hP hw
  cases r with
  | @dic _ o xs _ d hS rd hl =>
    obtain ⟨hφ, _, _⟩ := (show ObjOk Z.P Z.w H h l (pinO l o) from hok l _ e)
    have hφ : h.get? l = some o := hφ
    obtain ⟨h1, ⟨es, ep, h2, h3⟩, h4⟩ := d
    exact ⟨xs, hS, ⟨o, es, ep, hφ, h1, h2, h3, rd.is hok sm, h4⟩, rd, hl, o, rfl, hφ⟩
theorem sizeM {n : Nat} (h : n ≤ 1000000) : n ≤ sizeLine := Nat.le_trans h (Nat.le_trans (by decide) lineM)
end

section
variable {Z : Wd} {X : Cx} {pins : List (Addr × Obj)} {σ : L2.St} {H : Hp} {s : Shared} {F : Hp} {l : Addr} {ho : HO} {kvs : List (D × D)} {A : Around} {E : Value → Shared → Prop}
theorem pin_ok {P : Program} {w : World} {h : Heap} {o : Obj} (e : h.get? l = some o) : ObjOk P w H h l (pinO l o) := ⟨e, ⟨o, e⟩, fun h1 h2 e1 k => k o e1⟩
/-- the dict's object is replaced -/
theorem dic_write (ok : OkX Z X) (I : L2.Inv X pins σ H s) (e : H l = some ho) (r : RepO Z F l ho (.dic kvs)) (sm : Same F H) {h' : Heap} {t' : Nat} {xs' : List (NestedKey × Addr × Value)} {kvs' : List (D × D)} (hs : Heap.SameBut l s.heap h') (d : h'.DictOfH (nestedKind X.prog X.w) l xs')
    (rd : RepD Z F xs' kvs') (hl : kvs'.length ≤ 1000000) : ∃ ho', L2.Inv X pins σ (upd H l ho') { s with heap := h', toks := t' } ∧ RepO Z F l ho' (.dic kvs') := by
  obtain ⟨xs, hS, _, _, _, o, rfl, _⟩ := dic_of I.hok sm ok.P ok.w e r
  obtain ⟨o', es, ep, h1, h2, h3, h4, _, h5⟩ := d
  refine ⟨pinO l o', ?_, .dic ⟨h2, ⟨es, ep, h3, ?_⟩, h5⟩ hS rd hl⟩
  · exact I.write (x := l) (e := l) (by rw [e]; exact True.intro) (.inl rfl) (fun b q hb z => (hs.2 b hb).trans z) ⟨o', h1⟩ (pin_ok h1)
  · rw [h4, ok.P, ok.w]
theorem inv_big (I : L2.Inv X pins σ H s) : sysModules < s.heap.objs.size := by
  have h : mainGlobals < s.heap.objs.size := (I.mod.glob.keeps I.bk).lt
  exact Nat.lt_trans (by decide) h
/-- {} -/
theorem pe_dic0 {pos : Pos} (ok : OkX Z X) : PE X (.Dict [] [] pos) (fun _ H Q => ∀ p ho, H p = none → (∀ F, RepO Z F p ho (.dic [])) → Q (.ref p) (upd H p ho)) := ⟨fun pins s σ H Q I h => by
  refine wpAny_Dict_empty ⟨.ref s.heap.objs.size, _, I.laid (a := s.heap.objs.size) (o := pinO s.heap.objs.size { cls := .type "dict", data := .dict #[] }) (t' := s.toks) (fun _ _ q => Heap.get?_push_of_some _ q) (Nat.le_refl _) (pin_ok (Heap.get?_push_size _ rfl)), rfl, h _ _ (I.hok.fresh (Nat.le_refl _)) fun F => ?_⟩
  refine .dic (xs := []) ⟨⟨rfl, rfl, rfl⟩, ⟨#[], 0, rfl, rfl⟩, List.nodup_nil⟩ ?_ .nil (Nat.zero_le _)
  exact beq_eq_false_iff_ne.mpr (Nat.ne_of_gt (inv_big I))⟩
/-- d[k] -/
theorem dic_getItem {k d : D} {y : V} {u : Value} {Q : Value → Shared → Prop} (ok : OkX Z X) (hu : A.units + 9 < cLine) (I : L2.Inv X pins σ H s) (sm : Same F H) (e : H l = some ho) (r : RepO Z F l ho (.dic kvs)) (hk : kOk k = true) (hd : depth k ≤ 8) (ry : Rep Z F y k) (ru : RelV y u) (hg : dget kvs k = some d)
    (h : ∀ w w' s', L2.Inv X pins σ H s' → RelV w w' → Rep Z F w d → Q w' s') : wpAny (model X.prog X.w) A (getItem (.ref l) u) Q E s := by
  obtain ⟨xs, hS, dd, rd, _⟩ := dic_of I.hok sm ok.P ok.w e r
  have hkk : ∃ a, y = .ref a := by cases k <;> first | (simp [kOk] at hk; done) | (obtain ⟨a, _, rfl, _⟩ := ry.tup_inv; exact ⟨a, rfl⟩)
  obtain ⟨a, rfl⟩ := hkk
  cases ru
  rcases rd.get hk with ⟨d', p, w, h1, h2, h3, h4⟩ | ⟨h1, _⟩
  · rw [hg] at h1
    cases h1
    exact wpAny_getItem_heap (knd := nestedKind X.prog X.w) (by show A.units + 1 + 8 < cLine; omega) (is_key I.hok sm hk hd ry) dd h2 (h w p.2 _ (I.tok _) h3 h4)
  · rw [hg] at h1; cases h1
/-- d[k] = v -/
theorem dic_setItem {k v : D} {x y : V} {u r' : Value} {Q : Unit → Shared → Prop} (ok : OkX Z X) (hu : A.units + 9 < cLine) (I : L2.Inv X pins σ H s) (sm : Same F H) (e : H l = some ho) (r : RepO Z F l ho (.dic kvs)) (hk : kOk k = true) (hd : depth k ≤ 8) (ry : Rep Z F y k) (ru : RelV y u) (rx : Rep Z F x v) (rr : RelV x r')
    (hl : kvs.length < 1000000) (h : ∀ ho' s', L2.Inv X pins σ (upd H l ho') s' → RepO Z F l ho' (.dic (dput kvs k v)) → Q () s') : wpAny (model X.prog X.w) A (setItem (.ref l) u r') Q E s := by
  obtain ⟨xs, hS, dd, rd, hl', _⟩ := dic_of I.hok sm ok.P ok.w e r
  have hkk : ∃ a, y = .ref a := by cases k <;> first | (simp [kOk] at hk; done) | (obtain ⟨a, _, rfl, _⟩ := ry.tup_inv; exact ⟨a, rfl⟩)
  obtain ⟨a, rfl⟩ := hkk
  cases ru
  refine wpAny_setItem_heap (knd := nestedKind X.prog X.w) (hsz := sizeM (by rw [rd.length]; exact hl')) (by show A.units + 1 + 8 < cLine; omega) (is_key I.hok sm hk hd ry) dd fun h' dd' hs => ?_
  obtain ⟨ho', I', r2⟩ := dic_write (t' := s.toks + (nestedKind X.prog X.w).draws (toKey k)) ok I e r sm hs dd' (rd.put hk hd ry rr rx) (by have := dput_length (kvs := kvs) (k := k) (v := v); omega)
  exact h ho' _ I' r2
theorem dic_notIn {k : D} {y : V} {u : Value} {Q : Value → Shared → Prop} (ok : OkX Z X) (hu : A.units + 9 < cLine) (I : L2.Inv X pins σ H s) (sm : Same F H) (e : H l = some ho) (r : RepO Z F l ho (.dic kvs)) (hk : kOk k = true) (hd : depth k ≤ 8) (ry : Rep Z F y k) (ru : RelV y u)
    (h : ∀ s', L2.Inv X pins σ H s' → Q (.bool (!dhas kvs k)) s') : wpAny (model X.prog X.w) A (compareOp .NotIn u (.ref l)) Q E s := by
  obtain ⟨xs, hS, dd, rd, _⟩ := dic_of I.hok sm ok.P ok.w e r
  have hkk : ∃ a, y = .ref a := by cases k <;> first | (simp [kOk] at hk; done) | (obtain ⟨a, _, rfl, _⟩ := ry.tup_inv; exact ⟨a, rfl⟩)
  obtain ⟨a, rfl⟩ := hkk
  cases ru
  refine wpAny_notIn_heap (knd := nestedKind X.prog X.w) (by show A.units + 1 + 8 < cLine; omega) (is_key I.hok sm hk hd ry) hS dd ?_
  rw [rd.has hk]
  exact h _ (I.tok _)
theorem dic_get {k v : D} {x y : V} {u r' : Value} {Q : Value → Shared → Prop} (ok : OkX Z X) (hu : A.units + 9 < cLine) (I : L2.Inv X pins σ H s) (sm : Same F H) (e : H l = some ho) (r : RepO Z F l ho (.dic kvs)) (hk : kOk k = true) (hd : depth k ≤ 8) (ry : Rep Z F y k) (ru : RelV y u) (rx : Rep Z F x v) (rr : RelV x r')
    (h : ∀ w w' s', L2.Inv X pins σ H s' → RelV w w' → Rep Z F w ((dget kvs k).getD v) → Q w' s') : wpAny (model X.prog X.w) A (call (.builtin "dict.get") [.ref l, u, r']) Q E s := by
  obtain ⟨xs, hS, dd, rd, _⟩ := dic_of I.hok sm ok.P ok.w e r
  have hkk : ∃ a, y = .ref a := by cases k <;> first | (simp [kOk] at hk; done) | (obtain ⟨a, _, rfl, _⟩ := ry.tup_inv; exact ⟨a, rfl⟩)
  obtain ⟨a, rfl⟩ := hkk
  cases ru
  refine call_meetsIn PySem.F.slot_dict_get dd.typeIs PySem.F.entry_dict_get (PySem.F.args_dict_get_3 _ _ _) (meetsH_dict_get_default (nestedKind X.prog X.w) l a hS r') ⟨by show A.units + 1 + 8 < cLine; omega, toKey k, xs, is_key I.hok sm hk hd ry, dd, ?_⟩
  rcases rd.get hk with ⟨d, p, w, h1, h2, h3, h4⟩ | ⟨h1, h2⟩
  · rw [h2]
    rw [h1] at h
    exact h w p.2 _ (I.tok _) h3 h4
  · rw [h2]
    rw [h1] at h
    exact h x r' _ (I.tok _) rr rx
theorem dic_pop {k : D} {y : V} {u r' : Value} {Q : Value → Shared → Prop} (ok : OkX Z X) (hu : A.units + 9 < cLine) (I : L2.Inv X pins σ H s) (sm : Same F H) (e : H l = some ho) (r : RepO Z F l ho (.dic kvs)) (hk : kOk k = true) (hd : depth k ≤ 8) (ry : Rep Z F y k) (ru : RelV y u) (rr : RelV .non r')
    (h : ∀ w w' ho' s', L2.Inv X pins σ (upd H l ho') s' → RelV w w' → RepO Z F l ho' (.dic (ddrop kvs k)) → Q w' s') : wpAny (model X.prog X.w) A (call (.builtin "dict.pop") [.ref l, u, r']) Q E s := by
  obtain ⟨xs, hS, dd, rd, hl', _⟩ := dic_of I.hok sm ok.P ok.w e r
  have hkk : ∃ a, y = .ref a := by cases k <;> first | (simp [kOk] at hk; done) | (obtain ⟨a, _, rfl, _⟩ := ry.tup_inv; exact ⟨a, rfl⟩)
  obtain ⟨a, rfl⟩ := hkk
  cases ru
  have hz : xs.length ≤ sizeLine := sizeM (by rw [rd.length]; exact hl')
  rcases rd.get hk with ⟨d, p, w, h1, h2, h3, h4⟩ | ⟨h1, h2⟩
  · refine call_pop_heap (knd := nestedKind X.prog X.w) (hsz := hz) (.inr ⟨r', rfl⟩) (PySem.F.args_dict_pop_3 _ _ _) (by show A.units + 1 + 8 < cLine; omega) (is_key I.hok sm hk hd ry) hS dd h2 fun h' dd' hs => ?_
    obtain ⟨ho', I', r2⟩ := dic_write (t' := s.toks + (nestedKind X.prog X.w).draws (toKey k)) ok I e r sm hs dd' (rd.drop hk) (Nat.le_trans ddrop_length hl')
    exact h w p.2 ho' _ I' h3 r2
  · refine call_pop_default_heap (knd := nestedKind X.prog X.w) (hsz := hz) (by show A.units + 1 + 8 < cLine; omega) (is_key I.hok sm hk hd ry) hS dd h2 fun tk => ?_
    have e2 : ddrop kvs k = kvs := by
      unfold ddrop
      rw [List.filter_eq_self]
      intro p hp
      have : dhas kvs k = false := by rw [dhas_get, h1]; rfl
      unfold dhas at this
      rw [List.any_eq_false] at this
      have := this p hp
      simpa using this
    rw [e2] at h
    have eu : upd H l ho = H := by
      funext b
      unfold L2.upd
      split
      · rename_i hb; rw [hb, e]
      · rfl
    refine h .non r' ho _ ?_ rr r
    rw [eu]
    exact I.tok _
end
end Pd
end
section
set_option Elab.async false
set_option linter.all false
set_option maxRecDepth 100000
set_option maxHeartbeats 4000000
/-! PdDict2: dicts in expressions and statements; owned lists and dicts read and turned. -/
namespace Pd
open PySem PySem.Spec PyProof.Rows L2

/-! ### == {} -/
section
variable {prog : Program} {w : World} {A : Around} {E : Value → Shared → Prop} {s : Shared}
theorem samePairs0 {nm : String} {a b : Addr} {oa ob : Obj} {es : Array DictEntry} {ep ep' : Nat} {Q : Bool → Shared → Prop} (ha : (a == sysModules) = false) (hb : (b == sysModules) = false) (hoa : s.heap.get? a = some oa) (hda : oa.data = .dict es ep)
    (hob : s.heap.get? b = some ob) (hdb : ob.data = .dict #[] ep') (h : Q es.isEmpty s) : wpAny (model prog w) A (Builtin.Dict.samePairs nm a b) Q E s := by
  unfold Builtin.Dict.samePairs Builtin.Dict.showsAll
  rw [if_neg (show ¬ (a == sysModules) = true by rw [ha]; exact Bool.false_ne_true), if_neg (show ¬ (b == sysModules) = true by rw [hb]; exact Bool.false_ne_true)]
  refine wpAny_bind (wpAny_pure (wpAny_bind (wpAny_pure ?_)))
  refine wpAny_bind (wpAny_dictEntries hoa hda ?_)
  dsimp only
  refine wpAny_bind (wpAny_dictEntries hob hdb ?_)
  by_cases hsz : es.size = 0
  · have e0 : es = #[] := Array.eq_empty_of_size_eq_zero hsz
    subst e0
    rw [if_neg (by simp)]
    refine wpAny_bind (wpAny_dictEpoch hoa hda ?_)
    refine wpAny_bind ?_
    rw [Std.Legacy.Range.forIn_eq_forIn_range']
    simp only [Std.Legacy.Range.size, Nat.sub_zero, Nat.add_sub_cancel, Nat.div_one]
    refine wpAny_forIn_list _ (fun rest q s' => s' = s ∧ q = (none, ()) ∧ rest = []) _ ?_ ?_ _ _ ⟨rfl, rfl, rfl⟩
    · rintro x rest q s' ⟨_, _, hr⟩; cases hr
    · rintro q s' ⟨rfl, rfl, _⟩
      exact wpAny_pure h
  · rw [if_pos (by simpa using hsz)]
    have e1 : es.isEmpty = false := by simp [Array.isEmpty]; exact fun z => hsz (by rw [z]; rfl)
    rw [e1] at h
    exact wpAny_bind (wpAny_rule (wpAny_pure h))
theorem eq_empty {a b : Addr} {oa ob : Obj} {es : Array DictEntry} {ep ep' : Nat} {Q : Value → Shared → Prop} (ha : (a == sysModules) = false) (hb : (b == sysModules) = false) (hoa : s.heap.get? a = some oa) (hxa : oa.ExactDict) (hda : oa.data = .dict es ep)
    (hob : s.heap.get? b = some ob) (hxb : ob.ExactDict) (hdb : ob.data = .dict #[] ep') (hu : A.units < cLine) (h : Q (.bool es.isEmpty) s) : wpAny (model prog w) A (compareOp .Eq (.ref a) (.ref b)) Q E s := by
  have ta : s.TypeIs (.ref a) "dict" := ⟨oa, hoa, hxa.1⟩
  have tb : s.TypeIs (.ref b) "dict" := ⟨ob, hob, hxb.1⟩
  refine wpAny_richCompare_same_room (op := .Eq) ta tb PySem.F.slot_dict_eq (wpAny_call_entry PySem.F.slot_dict_eq ta PySem.F.entry_dict_eq ?_ (PySem.F.args_dict_eq_2 _ _)) hu
  show wpAny _ _ (Builtin.Dict.dictSlotArgs "__eq__" ⟨[.ref a, .ref b], []⟩ >>= _) _ _ s
  refine wpAny_bind ?_
  unfold Builtin.Dict.dictSlotArgs
  refine wpAny_bind (wpAny_notOrdered_dict ta ?_)
  show wpAny _ _ (pure (Value.ref a, Value.ref b)) _ _ s
  refine wpAny_pure ?_
  refine wpAny_bind (wpAny_isInstance (T := "dict") tb PySem.F.sub_dict_dict ?_)
  simp only [Bool.not_true, Bool.false_eq_true, if_false]
  refine wpAny_bind (wpAny_pure (wpAny_bind (wpAny_pure ?_)))
  refine wpAny_bind (samePairs0 ha hb hoa hda hob hdb ?_)
  refine wpAny_pure ⟨_, rfl, ?_, ?_⟩
  · exact fun x => nomatch x
  · simpa using h
theorem ne_empty {a b : Addr} {oa ob : Obj} {es : Array DictEntry} {ep ep' : Nat} {Q : Value → Shared → Prop} (ha : (a == sysModules) = false) (hb : (b == sysModules) = false) (hoa : s.heap.get? a = some oa) (hxa : oa.ExactDict) (hda : oa.data = .dict es ep)
    (hob : s.heap.get? b = some ob) (hxb : ob.ExactDict) (hdb : ob.data = .dict #[] ep') (hu : A.units < cLine) (h : Q (.bool (!es.isEmpty)) s) : wpAny (model prog w) A (compareOp .NotEq (.ref a) (.ref b)) Q E s := by
  have ta : s.TypeIs (.ref a) "dict" := ⟨oa, hoa, hxa.1⟩
  have tb : s.TypeIs (.ref b) "dict" := ⟨ob, hob, hxb.1⟩
  refine wpAny_richCompare_same_room (op := .NotEq) ta tb PySem.F.slot_dict_ne (wpAny_call_entry PySem.F.slot_dict_ne ta PySem.F.entry_dict_ne ?_ (PySem.F.args_dict_ne_2 _ _)) hu
  show wpAny _ _ (Builtin.Dict.dictSlotArgs "__ne__" ⟨[.ref a, .ref b], []⟩ >>= _) _ _ s
  refine wpAny_bind ?_
  unfold Builtin.Dict.dictSlotArgs
  refine wpAny_bind (wpAny_notOrdered_dict ta ?_)
  show wpAny _ _ (pure (Value.ref a, Value.ref b)) _ _ s
  refine wpAny_pure ?_
  refine wpAny_bind (wpAny_isInstance (T := "dict") tb PySem.F.sub_dict_dict ?_)
  simp only [Bool.not_true, Bool.false_eq_true, if_false]
  refine wpAny_bind (wpAny_pure (wpAny_bind (wpAny_pure ?_)))
  refine wpAny_bind (samePairs0 ha hb hoa hda hob hdb ?_)
  refine wpAny_pure ⟨_, rfl, ?_, ?_⟩
  · exact fun x => nomatch x
  · simpa using h
end

section
variable {Z : Wd} {X : Cx} {e a b c o f : Expr} {pos p p2 apos : Pos} {i k : Nat}
theorem Rep.dic_inv {F : Hp} {v : V} {kvs : List (D × D)} (r : Rep Z F v (.dic kvs)) : ∃ l ho, v = .ref l ∧ F l = some ho ∧ RepO Z F l ho (.dic kvs) := by
  cases r with
  | ref e q => exact ⟨_, _, rfl, e, q⟩
theorem raw_of {P : Program} {w : World} {h : Heap} {H F : Hp} (hok : HOk P w H h) (sm : Same F H) (hP : P = Z.P) (hw : w = Z.w) {l : Addr} {ho : HO} {kvs : List (D × D)} (e : H l = some ho) (r : RepO Z F l ho (.dic kvs)) :
    (l == sysModules) = false ∧ ∃ o es ep, h.get? l = some o ∧ o.ExactDict ∧ o.data = .dict es ep ∧ es.size = kvs.length := by
  obtain ⟨xs, hS, ⟨o, es, ep, h1, h2, h3, h4, _⟩, rd, _⟩ := dic_of hok sm hP hw e r
  refine ⟨hS, o, es, ep, h1, h2, h3, ?_⟩
  rw [← Array.length_toList, h4, List.length_map, rd.length]
theorem o_eqE (ok : OkX Z X) (hu : X.A.units + 64 < cLine) : OpR X (compareOp .Eq) (rD2 Z opEqE) := by
  intro pins s σ H x y v u Q I rx ry ⟨N, d, e, d', tk, r1, r2, hf, q⟩
  unfold opEqE at hf
  split at hf
  · cases hf
    rename_i as
    obtain ⟨l, ho, rfl, e1, q1⟩ := r1.dic_inv
    obtain ⟨m, ho2, rfl, e2, q2⟩ := r2.dic_inv
    cases rx
    cases ry
    obtain ⟨s1, oa, es, ep, g1, g2, g3, g4⟩ := raw_of I.hok avoid_le ok.P ok.w (avoid_le _ _ e1) q1
    obtain ⟨s2, ob, es2, ep2, k1, k2, k3, k4⟩ := raw_of I.hok avoid_le ok.P ok.w (avoid_le _ _ e2) q2
    have e0 : es2 = #[] := Array.eq_empty_of_size_eq_zero k4
    subst e0
    refine eq_empty s1 s2 g1 g2 g3 k1 k2 k3 (by omega) ⟨.bl as.isEmpty, H, I, ?_, q _ H (Same.refl _) (.bl _)⟩
    have : es.isEmpty = as.isEmpty := by
      cases as <;> simp [Array.isEmpty, g4]
    rw [this]
    rfl
  · cases hf
theorem o_neE (ok : OkX Z X) (hu : X.A.units + 64 < cLine) : OpR X (compareOp .NotEq) (rD2 Z opNeE) := by
  intro pins s σ H x y v u Q I rx ry ⟨N, d, e, d', tk, r1, r2, hf, q⟩
  unfold opNeE at hf
  split at hf
  · cases hf
    rename_i as
    obtain ⟨l, ho, rfl, e1, q1⟩ := r1.dic_inv
    obtain ⟨m, ho2, rfl, e2, q2⟩ := r2.dic_inv
    cases rx
    cases ry
    obtain ⟨s1, oa, es, ep, g1, g2, g3, g4⟩ := raw_of I.hok avoid_le ok.P ok.w (avoid_le _ _ e1) q1
    obtain ⟨s2, ob, es2, ep2, k1, k2, k3, k4⟩ := raw_of I.hok avoid_le ok.P ok.w (avoid_le _ _ e2) q2
    have e0 : es2 = #[] := Array.eq_empty_of_size_eq_zero k4
    subst e0
    refine ne_empty s1 s2 g1 g2 g3 k1 k2 k3 (by omega) ⟨.bl (!as.isEmpty), H, I, ?_, q _ H (Same.refl _) (.bl _)⟩
    have : es.isEmpty = as.isEmpty := by
      cases as <;> simp [Array.isEmpty, g4]
    rw [this]
    rfl
  · cases hf

/-! ### {} -/
theorem n_dic (ok : OkX Z X) : PE X (.Dict [] [] pos) (tN Z eDic) := PE.imp (pe_dic0 ok) fun σ H Q ⟨C, L, ρ, d, ρ', s, hm, q⟩ p ho hp r => by
  cases hm
  exact own_new s hp (r _) (Same.refl _) q
theorem d_dic (ok : OkX Z X) : PE X (.Dict [] [] pos) (tD Z eDic) := PE.imp (pe_dic0 ok) fun σ H Q ⟨C, L, ρ, d, ρ', s, hm, q⟩ p ho hp r => by
  cases hm
  exact q _ _ L (Fz_ext (same_upd hp)) (s.ext (same_upd hp)) (rep_new (s.fresh hp) hp (r _))
/-- a, b = {}, {} -/
theorem s_parDD {x y : Str} {i j : Nat} {px py pz pt pt2 : Pos} {kt k2} (ok : OkX Z X) (hi : X.N[i]? = some x) (hj : X.N[j]? = some y) (hij : i ≠ j) (hx : X.env.scope.names.lookup x = some .local) (hy : X.env.scope.names.lookup y = some .local) {q1 q2 : Pos}
    (hw : swappedStores [.Tuple [.Name x px, .Name y py] kt pt] (.Tuple [.Dict [] [] q1, .Dict [] [] q2] k2 pt2) X.env = pure (some [x, y])) (hs : swapsWithSole [.Tuple [.Name x px, .Name y py] kt pt] (.Tuple [.Dict [] [] q1, .Dict [] [] q2] k2 pt2) pos.line X.env = pure false := by rfl) :
    PS X (.Assign [.Tuple [.Name x px, .Name y py] kt pt] (.Tuple [.Dict [] [] q1, .Dict [] [] q2] k2 pt2) pos) (tDS Z (sParOO i j eDic eDic)) := PS.imp (ps_par ok.calm ok.nd hi hj hij hx hy (pa_cons (pe_dic0 ok) (pa_cons (pe_dic0 ok) pa_nil)) hw hs) fun D' σ H ⟨C, L, ρ, c, ρ', s, hm, qn, qr⟩ p ho hp r p2 ho2 hp2 r2 => by
  have hm : (if i < ρ.length ∧ j < ρ.length ∧ i ≠ 0 ∧ j ≠ 0 ∧ i ≠ j then some (Ct.nx, (ρ.set i (.o (.dic []))).set j (.o (.dic []))) else none) = some (c, ρ') := hm
  by_cases hk : i < ρ.length ∧ j < ρ.length ∧ i ≠ 0 ∧ j ≠ 0 ∧ i ≠ j
  · rw [if_pos hk] at hm
    cases hm
    refine ⟨_, _, rfl, ?_⟩
    obtain ⟨s1, na1⟩ := s.newo ho hp
    have t1 := s1.seto hk.1 hk.2.2.1 List.mem_cons_self na1 upd_same (r _)
    obtain ⟨s2, na2⟩ := t1.newo ho2 hp2
    have t2 := s2.seto (k := j) (by rw [List.length_set]; exact hk.2.1) hk.2.2.2.1 List.mem_cons_self na2 upd_same (r2 _)
    exact qn rfl _ _ _ ((Fz_new hp).trans (Fz_new hp2)) t2
  · rw [if_neg hk] at hm; cases hm

/-! ### subscripts -/
def rIxC (Z : Wd) : R2 := fun x y H Q => ∃ (F : Hp) (p : Addr) (ho : HO) (d e d' : D), Same F H ∧ x = .ref p ∧ H p = some ho ∧ RepO Z F p ho d ∧ Rep Z F y e ∧ opIx d e = some d' ∧ ∀ w, Rep Z F w d' → Q w H
theorem ixC (ok : OkX Z X) (hu : X.A.units + 64 < cLine) : IxR X (rIxC Z) := by
  intro value slice pins s σ H x y v u Q I rx ry h hs
  obtain ⟨F, p, ho, d, e, d', sm, rfl, hp, ro, re, hf, q⟩ := h
  cases ro with
  | @tup _ xs ds rr =>
    cases e with
    | int i =>
      obtain ⟨w, hw, rw'⟩ := at_rep (i := i) rr hf
      exact ix_tup value slice pins s σ H _ _ v u Q I rx ry ⟨p, xs, i, w, rfl, re.int_inv, SqT.of hp, hw, q w rw'⟩ hs
    | _ => cases hf
  | @lst _ xs ds rr =>
    cases e with
    | int i =>
      obtain ⟨w, hw, rw'⟩ := at_rep (i := i) rr hf
      exact ix_list value slice pins s σ H _ _ v u Q I rx ry ⟨p, xs, i, w, rfl, re.int_inv, SqL.of hp, hw, q w rw'⟩ hs
    | _ => cases hf
  | @dic _ o xs kvs d1 hS rd hl =>
    have ro : RepO Z F p (pinO p o) (.dic kvs) := .dic d1 hS rd hl
    have hf : (if kOk e ∧ depth e ≤ 8 then dget kvs e else none) = some d' := hf
    by_cases hk : kOk e ∧ depth e ≤ 8
    · rw [if_pos hk] at hf
      cases rx
      obtain ⟨hS, oo, es, ep, g1, g2, g3, _⟩ := raw_of I.hok sm ok.P ok.w hp ro
      have hT : s.TypeIs (.ref p) "dict" := ⟨oo, g1, g2.1⟩
      unfold subscriptTail
      refine wpAny_bind ?_
      rw [getitemInPython_of_ne hT.not_modules]
      refine wpAny_bind (wpAny_specialOf hT PySem.F.slot_dict_getitem.lookup ?_)
      have fin : wpAny (model X.prog X.w) X.A (subscripted slice false (.ref p) u) (fun r s₃ => wpAny (model X.prog X.w) X.A (letTemporaryGo value (.ref p) r >>= fun _ => pure r) (EP X pins σ Q) X.xe s₃) X.xe s := by
        rw [hs]
        refine wpAny_operating (dic_getItem ok (by omega) I sm hp ro hk.1 hk.2 re ry hf fun w w' s' I' rw1 rw2 => ?_)
        exact wpAny_bind (wpAny_letTemporaryGo (wpAny_pure ⟨w, H, I', rw1, q w rw2⟩))
      first
        | exact wpAny_pure (wpAny_bind fin)
        | exact wpAny_bind (wpAny_pure (wpAny_bind fin))
        | exact wpAny_bind fin
    · rw [if_neg hk] at hf; cases hf
  | ins _ _ _ => cases hf
theorem o_ix (ok : OkX Z X) (hu : X.A.units + 64 < cLine) : IxR X (rD2 Z opIx) := by
  intro value slice pins s σ H x y v u Q I rx ry ⟨N, d, e, d', tk, r1, r2, hf, q⟩ hs
  have key : ∃ p ho, x = .ref p ∧ avoid H N p = some ho ∧ RepO Z (avoid H N) p ho d := by
    cases r1 with
    | ref e q => exact ⟨_, _, rfl, e, q⟩
    | _ => cases hf
  obtain ⟨p, ho, rfl, e1, q1⟩ := key
  exact ixC ok hu value slice pins s σ H _ _ v u Q I rx ry ⟨avoid H N, p, ho, d, e, d', avoid_le, rfl, avoid_le _ _ e1, q1, r2, hf, fun w rw' => q w H (Same.refl _) rw'⟩ hs
/-- x[a], x an owned thing -/
theorem d_ixO {mb : E} (ok : OkX Z X) (hu : X.A.units + 64 < cLine) (ha : PE X a (tVar k)) (hb : PE X b (tD Z mb)) (hs : PlainIx b) : PE X (.Subscript a b pos) (tD Z (eIxO k mb)) :=
  PE.imp (pe_ix (ixC ok hu) ha hb hs) fun σ H Q ⟨C, L, ρ, d, ρ', s, hm, q⟩ => by
    obtain ⟨d0, ρ1, h1, hm1⟩ := bnd_inv hm
    obtain ⟨o0, rfl⟩ := own_inv h1
    obtain ⟨x, ρ2, h2, hm2⟩ := bnd_inv hm1
    obtain ⟨d1, ρ3, h3, hm3⟩ := bnd_inv hm2
    obtain ⟨o1, rfl⟩ := own_inv h3
    obtain ⟨y, h4, e⟩ := lift_inv hm3
    cases e
    obtain ⟨l, ho, g1, g2, g3, g4⟩ := s.own k d0 o0
    refine ⟨.ref l, g1, C, L, _, x, _, s, h2, fun v H1 L1 sm s1 r => ?_⟩
    obtain ⟨l', ho', g1', g2', g3', g4'⟩ := s1.own k d1 o1
    rw [g1] at g1'
    cases g1'
    exact ⟨Fz C L1 H1, l, ho', d1, x, d, avoid_le, rfl, g3', g4', r, h4, fun w rw' => q w H1 L1 sm s1 rw'⟩

/-! ### stores by subscript -/
def rSetC (Z : Wd) : TSet := fun x y v H Q => ∃ (F : Hp) (p : Addr) (ho : HO) (d e dv d' : D), Same F H ∧ x = .ref p ∧ H p = some ho ∧ RepO Z F p ho d ∧ Rep Z F y e ∧ Rep Z F v dv ∧ setD d e dv = some d' ∧ ∀ ho', RepO Z F p ho' d' → Q (upd H p ho')
theorem setC (ok : OkX Z X) (hu : X.A.units + 64 < cLine) : PSet X (rSetC Z) := by
  intro pins s σ H o i v ov iv u Q I ro ri rv h
  obtain ⟨F, p, ho, d, e, dv, d', sm, rfl, hp, r0, re, rd, hf, q⟩ := h
  cases r0 with
  | @lst _ xs ds rr =>
    cases e with
    | int j =>
      have hf : (setAt ds j dv).map D.lst = some d' := hf
      obtain ⟨ds', h1, rfl⟩ := map_some hf
      unfold setAt at h1
      by_cases hj : 0 ≤ j ∧ j.toNat < ds.length
      · rw [if_pos hj] at h1
        cases h1
        refine set_list pins s σ H _ _ v ov iv u Q I ro ri rv ⟨p, xs, j, j.toNat, rfl, re.int_inv, hp, ?_, q _ (.lst (rr.set rd _))⟩
        unfold ixN
        rw [if_pos hj.1, if_pos (by rw [rr.length]; omega)]
      · rw [if_neg hj] at h1; cases h1
    | _ => cases hf
  | @dic _ oo xs kvs d1 hS rdd hl =>
    have r0 : RepO Z F p (pinO p oo) (.dic kvs) := .dic d1 hS rdd hl
    have hf : (if kOk e ∧ depth e ≤ 8 ∧ kvs.length < 1000000 then some (D.dic (dput kvs e dv)) else none) = some d' := by
      cases e <;> first | exact hf | (cases hf)
    by_cases hk : kOk e ∧ depth e ≤ 8 ∧ kvs.length < 1000000
    · rw [if_pos hk] at hf
      cases hf
      cases ro
      exact dic_setItem ok (by omega) I sm hp r0 hk.1 hk.2.1 re ri rd rv hk.2.2 fun ho' s' I' r' => ⟨_, I', q ho' r'⟩
    · rw [if_neg hk] at hf; cases hf
  | tup _ => cases hf
  | ins _ _ _ => cases hf
theorem dg_sub {ks : List Nat} {mi : E} (ok : OkX Z X) (hu : X.A.units + 64 < cLine) (ho : PE X o (tVar k)) (hi : PE X a (tD Z mi))
    (ha : ∀ v, assign (.Subscript o a pos) X.env v = (do
      let ov ← holding [v] (eval o X.env)
      let iv ← holding [v, ov] (eval a X.env)
      standAt pos
      holding [v, ov, iv] (setItem ov iv v)
      release [v, ov, iv] []) := by intro _; rfl) : PG X (.Subscript o a pos) (tDG Z ks (Pd.gSub k mi)) :=
  PG.imp (pg_sub ho hi (setC ok hu) ha) fun v σ H Q ⟨C, L, ρ, d, ρ', s, rv, hm, q⟩ => by
    obtain ⟨d0, ρ1, h1, hm1⟩ := bnd_inv hm
    obtain ⟨o0, rfl⟩ := own_inv h1
    obtain ⟨x, ρ2, h2, hm2⟩ := bnd_inv hm1
    obtain ⟨d1, ρ3, h3, hm3⟩ := bnd_inv hm2
    obtain ⟨o1, rfl⟩ := own_inv h3
    obtain ⟨d', ρ4, h4, hm4⟩ := bnd_inv hm3
    obtain ⟨y, h5, e⟩ := lift_inv h4
    cases e
    obtain ⟨_, rfl⟩ := putO_inv hm4
    obtain ⟨l, hO, g1, g2, g3, g4⟩ := s.own k d0 o0
    refine ⟨.ref l, g1, C, L, _, x, _, s, h2, fun w H1 L1 sm s1 r => ?_⟩
    obtain ⟨l', hO', g1', g2', g3', g4'⟩ := s1.own k d1 o1
    rw [g1] at g1'
    cases g1'
    refine ⟨Fz C L1 H1, l, hO', d1, x, d, d', avoid_le, rfl, g3', g4', r, rv.mono sm, h5, fun ho' r' => ?_⟩
    have em : Fz C L1 (upd H1 l ho') = Fz C L1 H1 := avoid_upd (List.mem_append_left _ g2')
    obtain ⟨s2, sm2⟩ := s1.turn (d' := d') (H' := upd H1 l ho') o1 g1 g2' (fun a u ne z => by rw [upd_ne ne]; exact z) upd_same (by rw [em]; exact r')
    exact q σ _ L1 (Only.refl _ _) (sm.trans sm2) s2

/-! ### append, extend -/
theorem ownL_inv {k : Nat} {ρ ρ' : Env} (h : ownL? k ρ = some ((), ρ')) : (∃ ds, ρ[k]? = some (.o (.lst ds))) ∧ ρ = ρ' := by
  unfold ownL? at h
  split at h
  · cases h; rename_i hh; exact ⟨⟨_, hh⟩, rfl⟩
  · cases h
theorem ownD_inv {k : Nat} {ρ ρ' : Env} (h : ownD? k ρ = some ((), ρ')) : (∃ ds, ρ[k]? = some (.o (.dic ds))) ∧ ρ = ρ' := by
  unfold ownD? at h
  split at h
  · cases h; rename_i hh; exact ⟨⟨_, hh⟩, rfl⟩
  · cases h
variable {es : List Expr} {cpos : Pos}
theorem s_app {me : E} (ok : OkX Z X) (ho : PE X o (tVar k)) (he : PE X e (tD Z me)) (hbase : attributeBase o "append" X.env (eval o X.env) = eval o X.env := by rfl)
    (hfew : ((backTo cpos (starEach [e] X.env)).all (fun x => !x.1) && (backToKw cpos (keywordEach [] X.env)).all (fun x => x.1.isSome)
      && decide (([e] : List Expr).length + ([] : List Keyword).length + (if ([] : List Keyword).isEmpty then 0 else 1) < 30)) = true := by rfl)
    (hline : (apos.endLine == cpos.line) = true := by rfl) (hs : starEach [e] X.env = (false, eval e X.env) :: starEach [] X.env := by rfl) (hq : swapsWith (.Call (.Attribute o "append" apos) [e] [] cpos) none pos.line X.env = pure false := by rfl) :
    PS X (.Expr (.Call (.Attribute o "append" apos) [e] [] cpos) pos) (tDS Z (sApp k me)) := PS.imp (ps_expr (pe_bm PySem.F.plainAttrs_list PySem.F.slot_list_append PySem.F.type_list_append mt_append ho (pa_cons he pa_nil hs) hbase hfew hline hs rfl) hq) fun D' σ H ⟨C, L, ρ, c, ρ', s, hm, qn, qr⟩ => by
  obtain ⟨d0, ρ1, h1, hm1⟩ := bnd_inv hm
  obtain ⟨⟨ds0, o0⟩, rfl⟩ := ownL_inv h1
  obtain ⟨y, ρ2, h2, hm2⟩ := bnd_inv hm1
  obtain ⟨d1, ρ3, h3, hm3⟩ := bnd_inv hm2
  obtain ⟨o1, rfl⟩ := own_inv h3
  cases d1 with
  | lst ds =>
    have hm3 : (if ds.length < 1000000 then bnd (putO k (.lst (ds ++ [y]))) (fun _ => Pd.ret Ct.nx) else Pd.fail) ρ2 = some (c, ρ') := hm3
    by_cases hl : ds.length < 1000000
    · rw [if_pos hl] at hm3
      obtain ⟨_, ρ4, h4, hm4⟩ := bnd_inv hm3
      obtain ⟨_, rfl⟩ := putO_inv h4
      cases hm4
      obtain ⟨l, hO, g1, g2, g3, g4⟩ := s.own k _ o0
      refine ⟨.ref l, g1, ?_, C, L, _, y, _, s, h2, fun w H1 L1 sm s1 r => ?_⟩
      · cases g4 with
        | @lst _ xs _ rr => exact .inl ⟨rfl, xs, SqL.of g3⟩
      · obtain ⟨l', hO', g1', g2', g3', g4'⟩ := s1.own k _ o1
        rw [g1] at g1'
        cases g1'
        cases g4' with
        | @lst _ xs _ rr =>
          refine ⟨l, xs, w, rfl, rfl, g3', Nat.lt_of_lt_of_le (by rw [rr.length]; exact hl) (Nat.le_trans (by decide) lineM), ?_⟩
          have em : Fz C L1 (upd H1 l (.lst (xs ++ [w]))) = Fz C L1 H1 := avoid_upd (List.mem_append_left _ g2')
          obtain ⟨s2, sm2⟩ := s1.turn (d' := .lst (ds ++ [y])) (H' := upd H1 l (.lst (xs ++ [w]))) o1 g1 g2' (fun a u ne z => by rw [upd_ne ne]; exact z) upd_same (by rw [em]; exact .lst (rr.append (.cons r .nil)))
          exact qn rfl σ _ L1 (sm.trans sm2) s2
    · rw [if_neg hl] at hm3; cases hm3
  | _ => cases hm3
theorem s_ext {me : E} (ok : OkX Z X) (ho : PE X o (tVar k)) (he : PE X e (tD Z me)) (hbase : attributeBase o "extend" X.env (eval o X.env) = eval o X.env := by rfl)
    (hfew : ((backTo cpos (starEach [e] X.env)).all (fun x => !x.1) && (backToKw cpos (keywordEach [] X.env)).all (fun x => x.1.isSome)
      && decide (([e] : List Expr).length + ([] : List Keyword).length + (if ([] : List Keyword).isEmpty then 0 else 1) < 30)) = true := by rfl)
    (hline : (apos.endLine == cpos.line) = true := by rfl) (hs : starEach [e] X.env = (false, eval e X.env) :: starEach [] X.env := by rfl) (hq : swapsWith (.Call (.Attribute o "extend" apos) [e] [] cpos) none pos.line X.env = pure false := by rfl) :
    PS X (.Expr (.Call (.Attribute o "extend" apos) [e] [] cpos) pos) (tDS Z (sExt k me)) := PS.imp (ps_expr (pe_bm PySem.F.plainAttrs_list PySem.F.slot_list_extend PySem.F.type_list_extend mt_extend ho (pa_cons he pa_nil hs) hbase hfew hline hs rfl) hq) fun D' σ H ⟨C, L, ρ, c, ρ', s, hm, qn, qr⟩ => by
  obtain ⟨d0, ρ1, h1, hm1⟩ := bnd_inv hm
  obtain ⟨⟨ds0, o0⟩, rfl⟩ := ownL_inv h1
  obtain ⟨y, ρ2, h2, hm2⟩ := bnd_inv hm1
  obtain ⟨d1, ρ3, h3, hm3⟩ := bnd_inv hm2
  obtain ⟨o1, rfl⟩ := own_inv h3
  cases d1 with
  | lst ds =>
    cases y with
    | lst bs =>
      have hm3 : (if ds.length + bs.length < 1000000 then bnd (putO k (.lst (ds ++ bs))) (fun _ => Pd.ret Ct.nx) else Pd.fail) ρ2 = some (c, ρ') := hm3
      by_cases hl : ds.length + bs.length < 1000000
      · rw [if_pos hl] at hm3
        obtain ⟨_, ρ4, h4, hm4⟩ := bnd_inv hm3
        obtain ⟨_, rfl⟩ := putO_inv h4
        cases hm4
        obtain ⟨l, hO, g1, g2, g3, g4⟩ := s.own k _ o0
        refine ⟨.ref l, g1, ?_, C, L, _, .lst bs, _, s, h2, fun w H1 L1 sm s1 r => ?_⟩
        · cases g4 with
          | @lst _ xs _ rr => exact .inl ⟨rfl, xs, SqL.of g3⟩
        · obtain ⟨l', hO', g1', g2', g3', g4'⟩ := s1.own k _ o1
          rw [g1] at g1'
          cases g1'
          cases g4' with
          | @lst _ xs _ rr =>
            obtain ⟨b, zs, rfl, eb, rb⟩ := r.lst_inv
            refine ⟨l, b, xs, zs, rfl, rfl, g3', avoid_le _ _ eb, Nat.le_trans (by rw [rr.length, rb.length]; exact Nat.le_of_lt hl) (Nat.le_trans (by decide) lineM), ?_⟩
            have em : Fz C L1 (upd H1 l (.lst (xs ++ zs))) = Fz C L1 H1 := avoid_upd (List.mem_append_left _ g2')
            obtain ⟨s2, sm2⟩ := s1.turn (d' := .lst (ds ++ bs)) (H' := upd H1 l (.lst (xs ++ zs))) o1 g1 g2' (fun a u ne z => by rw [upd_ne ne]; exact z) upd_same (by rw [em]; exact .lst (rr.append rb))
            exact qn rfl σ _ L1 (sm.trans sm2) s2
      · rw [if_neg hl] at hm3; cases hm3
    | _ => cases hm3
  | _ => cases hm3

/-! ### not in, get, pop -/
theorem dt_notInO {ma : E} (ok : OkX Z X) (hu : X.A.units + 64 < cLine) (ha : PE X a (tD Z ma)) (hb : PE X b (tVar k)) (hm : behindInMarks .NotIn b = false := by rfl) : PT X (.Compare a [.NotIn] [b] pos) (tDt Z (tNotInO ma k)) := by
  have ho : OpR X (compareOp .NotIn) (fun x y H Q => ∃ (F : Hp) (p : Addr) (ho : HO) (kvs : List (D × D)) (k : D), Same F H ∧ y = .ref p ∧ H p = some ho ∧ RepO Z F p ho (.dic kvs) ∧ Rep Z F x k ∧ kOk k = true ∧ depth k ≤ 8 ∧ Q (.bl (!dhas kvs k)) H) := by
    intro pins s σ H x y v u Q I rx ry h
    obtain ⟨F, p, ho, kvs, kd, sm, rfl, hp, r0, rk, h1, h2, q⟩ := h
    cases ry
    exact dic_notIn ok (by omega) I sm hp r0 h1 h2 rk rx fun s' I' => ⟨.bl (!dhas kvs kd), H, I', rfl, q⟩
  refine PT.imp (pt_cmpR ho ha hb hm) fun σ H Q ⟨C, L, ρ, d, ρ', s, hm, q⟩ => ?_
  obtain ⟨x, ρ1, h1, hm1⟩ := bnd_inv hm
  obtain ⟨d0, ρ2, h2, hm2⟩ := bnd_inv hm1
  obtain ⟨o0, rfl⟩ := own_inv h2
  refine ⟨C, L, ρ, x, _, s, h1, fun v H1 L1 sm s1 r => ?_⟩
  cases d0 with
  | dic kvs =>
    have hm2 : (if kOk x ∧ depth x ≤ 8 then Pd.ret (!dhas kvs x) else Pd.fail) ρ1 = some (d, ρ') := hm2
    by_cases hk : kOk x ∧ depth x ≤ 8
    · rw [if_pos hk] at hm2
      cases hm2
      obtain ⟨l, hO, g1, g2, g3, g4⟩ := s1.own k _ o0
      exact ⟨.ref l, g1, Fz C L1 H1, l, hO, kvs, x, avoid_le, rfl, g3, g4, r, hk.1, hk.2, _, rfl, q H1 L1 sm s1⟩
    · rw [if_neg hk] at hm2; cases hm2
  | _ => cases hm2
/-- o.get(e, f) by what o is -/
theorem pe_getC {td te tf : TE} (ok : OkX Z X) (hu : X.A.units + 64 < cLine) (ho : PE X o td) (he : PE X e te) (hf : PE X f tf) (m : M2 X o "get" apos e f cpos) : PE X (.Call (.Attribute o "get" apos) [e, f] [] cpos)
    (fun σ H Q => td σ H fun x H1 => (∃ (F : Hp) (p : Addr) (hO : HO) (kvs : List (D × D)), Same F H1 ∧ x = .ref p ∧ H1 p = some hO ∧ RepO Z F p hO (.dic kvs)) ∧ te σ H1 fun y H2 => tf σ H2 fun z H3 => ∃ (F : Hp) (p : Addr) (hO : HO) (kvs : List (D × D)) (kd vd : D), Same F H3 ∧ x = .ref p ∧ H3 p = some hO ∧ RepO Z F p hO (.dic kvs) ∧ Rep Z F y kd ∧ kOk kd = true ∧ depth kd ≤ 8 ∧ Rep Z F z vd ∧
      ∀ w, Rep Z F w ((dget kvs kd).getD vd) → Q w H3) := by
  refine ⟨fun pins s σ H Q I h => ?_⟩
  refine wpAny_Call_method m.base m.few m.line PySem.F.plainAttrs_dict PySem.F.slot_dict_get PySem.F.type_dict_get (thn (ho.run pins s σ H _ I h) fun u s1 ⟨x, H1, I1, rx, ⟨F, p, hO, kvs, sm, ex, hp, r0⟩, q1⟩ => ?_)
  subst ex
  obtain rfl : u = Value.ref p := rx
  obtain ⟨hS, oo, es', ep, g1, g2, g3, _⟩ := raw_of I1.hok sm ok.P ok.w hp r0
  refine ⟨⟨oo, g1, g2.1⟩, fun b q => by cases q; exact ⟨oo, g1, g2.2.1⟩, ?_⟩
  rw [m.trees]
  refine Calls.callWith_builtin rfl (Calls.evalArgs_plain (Calls.spliced_cons (thn (he.run pins s1 σ H1 _ I1 q1) fun iv s2 ⟨y, H2, I2, ry, q2⟩ =>
    Calls.spliced_cons (thn (hf.run pins s2 σ H2 _ I2 q2) fun fv s3 ⟨z, H3, I3, rz, F3, p3, hO3, kvs3, kd, vd, sm3, ex3, hp3, r3, rk, hk, hd, rv, q3⟩ => Calls.spliced_nil ?_))))
  cases ex3
  exact dic_get ok (by omega) I3 sm3 hp3 r3 hk hd rk ry rv rz fun w w' s' I' rw1 rw2 => ⟨w, H3, I', rw1, q3 w rw2⟩
theorem d_getO {me mf : E} (ok : OkX Z X) (hu : X.A.units + 64 < cLine) (ho : PE X o (tVar k)) (he : PE X e (tD Z me)) (hf : PE X f (tD Z mf)) (m : M2 X o "get" apos e f cpos) : PE X (.Call (.Attribute o "get" apos) [e, f] [] cpos) (tD Z (eGetO k me mf)) :=
  PE.imp (pe_getC ok hu ho he hf m) fun σ H Q ⟨C, L, ρ, d, ρ', s, hm, q⟩ => by
    obtain ⟨d0, ρ1, h1, hm1⟩ := bnd_inv hm
    obtain ⟨⟨kv0, o0⟩, rfl⟩ := ownD_inv h1
    obtain ⟨y, ρ2, h2, hm2⟩ := bnd_inv hm1
    obtain ⟨z, ρ3, h3, hm3⟩ := bnd_inv hm2
    obtain ⟨d1, ρ4, h4, hm4⟩ := bnd_inv hm3
    obtain ⟨o1, rfl⟩ := own_inv h4
    obtain ⟨l, hO, g1, g2, g3, g4⟩ := s.own k _ o0
    refine ⟨.ref l, g1, ⟨Fz C L H, l, hO, kv0, avoid_le, rfl, g3, g4⟩, C, L, _, y, _, s, h2, fun v1 H1 L1 sm1 s1 r1 => ⟨C, L1, _, z, _, s1, h3, fun v2 H2 L2 sm2 s2 r2 => ?_⟩⟩
    cases d1 with
    | dic kvs =>
      have hm4 : (if kOk y ∧ depth y ≤ 8 then Pd.ret ((dget kvs y).getD z) else Pd.fail) ρ3 = some (d, ρ') := hm4
      by_cases hk : kOk y ∧ depth y ≤ 8
      · rw [if_pos hk] at hm4
        cases hm4
        obtain ⟨l', hO', g1', g2', g3', g4'⟩ := s2.own k _ o1
        rw [g1] at g1'
        cases g1'
        exact ⟨Fz C L2 H2, l, hO', kvs, y, z, avoid_le, rfl, g3', g4', r1.mono sm2, hk.1, hk.2, r2, fun w rw' => q w H2 L2 (sm1.trans sm2) s2 rw'⟩
      · rw [if_neg hk] at hm4; cases hm4
    | _ => cases hm4
theorem d_get {mo me mf : E} (ok : OkX Z X) (hu : X.A.units + 64 < cLine) (ho : PE X o (tD Z mo)) (he : PE X e (tD Z me)) (hf : PE X f (tD Z mf)) (m : M2 X o "get" apos e f cpos) : PE X (.Call (.Attribute o "get" apos) [e, f] [] cpos) (tD Z (eGet mo me mf)) :=
  PE.imp (pe_getC ok hu ho he hf m) fun σ H Q ⟨C, L, ρ, d, ρ', s, hm, q⟩ => by
    obtain ⟨d1, ρ1, h1, hm1⟩ := bnd_inv hm
    obtain ⟨y, ρ2, h2, hm2⟩ := bnd_inv hm1
    obtain ⟨z, ρ3, h3, hm3⟩ := bnd_inv hm2
    cases d1 with
    | dic kvs =>
      have hm3 : (if kOk y ∧ depth y ≤ 8 then Pd.ret ((dget kvs y).getD z) else Pd.fail) ρ3 = some (d, ρ') := hm3
      by_cases hk : kOk y ∧ depth y ≤ 8
      · rw [if_pos hk] at hm3
        cases hm3
        refine ⟨C, L, ρ, .dic kvs, _, s, h1, fun v0 H0 L0 sm0 s0 r0 => ?_⟩
        obtain ⟨l, hO, rfl, e1, q1⟩ := r0.dic_inv
        refine ⟨⟨Fz C L0 H0, l, hO, kvs, avoid_le, rfl, avoid_le _ _ e1, q1⟩, C, L0, _, y, _, s0, h2, fun v1 H1 L1 sm1 s1 r1 => ⟨C, L1, _, z, _, s1, h3, fun v2 H2 L2 sm2 s2 r2 => ?_⟩⟩
        have smm := sm1.trans sm2
        exact ⟨Fz C L2 H2, l, hO, kvs, y, z, avoid_le, rfl, avoid_le _ _ (smm _ _ e1), q1.mono smm, r1.mono sm2, hk.1, hk.2, r2, fun w rw' => q w H2 L2 (sm0.trans smm) s2 rw'⟩
      · rw [if_neg hk] at hm3; cases hm3
    | _ => cases hm3
/-- d.pop(e, None) -/
theorem s_pop {me : E} {j : Nat} (ok : OkX Z X) (hu : X.A.units + 64 < cLine) (ho : PE X o (tVar k)) (he : PE X e (tD Z me)) (m : M2 X o "pop" apos e (.Constant .none j p2) cpos) (hq : swapsWith (.Call (.Attribute o "pop" apos) [e, .Constant .none j p2] [] cpos) none pos.line X.env = pure false := by rfl) :
    PS X (.Expr (.Call (.Attribute o "pop" apos) [e, .Constant .none j p2] [] cpos) pos) (tDS Z (sPop k me)) := by
  have hp : PE X (.Call (.Attribute o "pop" apos) [e, .Constant .none j p2] [] cpos) (fun σ H Q => ∃ l, σ[k]? = some (some (V.ref l)) ∧ (∃ (F : Hp) (hO : HO) (kvs : List (D × D)), Same F H ∧ H l = some hO ∧ RepO Z F l hO (.dic kvs)) ∧ tD Z me σ H fun y H2 => ∃ (F : Hp) (hO : HO) (kvs : List (D × D)) (kd : D), Same F H2 ∧ H2 l = some hO ∧ RepO Z F l hO (.dic kvs) ∧ Rep Z F y kd ∧ kOk kd = true ∧ depth kd ≤ 8 ∧
      ∀ w ho', RepO Z F l ho' (.dic (ddrop kvs kd)) → Q w (upd H2 l ho')) := by
    refine ⟨fun pins s σ H Q I ⟨l, hl, ⟨F, hO, kvs, sm, hp, r0⟩, h⟩ => ?_⟩
    refine wpAny_Call_method m.base m.few m.line PySem.F.plainAttrs_dict PySem.F.slot_dict_pop PySem.F.type_dict_pop (thn (ho.run pins s σ H (fun x H1 => x = .ref l ∧ H1 = H) I ⟨.ref l, hl, rfl, rfl⟩) fun u s1 ⟨x, H1, I1, rx, ex, eH⟩ => ?_)
    subst ex eH
    obtain rfl : u = Value.ref l := rx
    obtain ⟨hS, oo, es', ep, g1, g2, g3, _⟩ := raw_of I1.hok sm ok.P ok.w hp r0
    refine ⟨⟨oo, g1, g2.1⟩, fun b q => by cases q; exact ⟨oo, g1, g2.2.1⟩, ?_⟩
    rw [m.trees]
    refine Calls.callWith_builtin rfl (Calls.evalArgs_plain (Calls.spliced_cons (thn (he.run pins s1 σ H1 _ I1 h) fun iv s2 ⟨y, H2, I2, ry, F2, hO2, kvs2, kd, sm2, hp2, r2, rk, hk, hd, q2⟩ =>
      Calls.spliced_cons (thn (pe_non.run pins s2 σ H2 (fun x H' => x = .non ∧ H' = H2) I2 ⟨rfl, rfl⟩) fun fv s3 ⟨z, H3, I3, rz, ez, eH⟩ => Calls.spliced_nil ?_))))
    subst ez eH
    exact dic_pop ok (by omega) I3 sm2 hp2 r2 hk hd rk ry rz fun w w' ho' s' I' rw1 rw2 => ⟨w, _, I', rw1, q2 w ho' rw2⟩
  refine PS.imp (ps_expr hp hq) fun D' σ H ⟨C, L, ρ, c, ρ', s, hm, qn, qr⟩ => ?_
  obtain ⟨d0, ρ1, h1, hm1⟩ := bnd_inv hm
  obtain ⟨⟨kv0, o0⟩, rfl⟩ := ownD_inv h1
  obtain ⟨y, ρ2, h2, hm2⟩ := bnd_inv hm1
  obtain ⟨d1, ρ3, h3, hm3⟩ := bnd_inv hm2
  obtain ⟨o1, rfl⟩ := own_inv h3
  obtain ⟨l, hO, g1, g2, g3, g4⟩ := s.own k _ o0
  refine ⟨l, g1, ⟨Fz C L H, hO, kv0, avoid_le, g3, g4⟩, C, L, _, y, _, s, h2, fun w H1 L1 sm s1 r => ?_⟩
  cases d1 with
  | dic kvs =>
    have hm3 : (if kOk y ∧ depth y ≤ 8 then bnd (putO k (.dic (ddrop kvs y))) (fun _ => Pd.ret Ct.nx) else Pd.fail) ρ2 = some (c, ρ') := hm3
    by_cases hk : kOk y ∧ depth y ≤ 8
    · rw [if_pos hk] at hm3
      obtain ⟨_, ρ4, h4, hm4⟩ := bnd_inv hm3
      obtain ⟨_, rfl⟩ := putO_inv h4
      cases hm4
      obtain ⟨l', hO', g1', g2', g3', g4'⟩ := s1.own k _ o1
      rw [g1] at g1'
      cases g1'
      refine ⟨Fz C L1 H1, hO', kvs, y, avoid_le, g3', g4', r, hk.1, hk.2, fun w' ho' r' => ?_⟩
      have em : Fz C L1 (upd H1 l ho') = Fz C L1 H1 := avoid_upd (List.mem_append_left _ g2')
      obtain ⟨s2, sm2⟩ := s1.turn (d' := .dic (ddrop kvs y)) (H' := upd H1 l ho') o1 g1 g2' (fun a u ne z => by rw [upd_ne ne]; exact z) upd_same (by rw [em]; exact r')
      exact qn rfl σ _ L1 (sm.trans sm2) s2
    · rw [if_neg hk] at hm3; cases hm3
  | _ => cases hm3
end
end Pd
end
section
set_option Elab.async false
set_option linter.all false
set_option maxRecDepth 100000
set_option maxHeartbeats 4000000
/-! PdSeq: [::-1], list(..), list(range(..)), len(set(..)), dict(pairs), dicts walked. -/
namespace Pd
open PySem PySem.Spec PyProof.Rows L2

section
variable {prog : Program} {w : World} {A : Around} {E : Value → Shared → Prop} {s : Shared}
theorem sliceApplied_rev {sl : Addr} {vl vu : Value} {t : Tok} {n : Nat} {Q : Int × Int × Nat → Shared → Prop} (hs : s.heap.IsSliceOf sl vl vu (.int (-1) t)) (pl : IsPart vl none) (pu : IsPart vu none)
    (h : Q ((n : Int) - 1, -1, n) s) : wpAny (model prog w) A (Builtin.Slice.sliceApplied (.ref sl) (pure (n : Int))) Q E s := by
  obtain ⟨os, hos, hcs, hds⟩ := id hs
  unfold Builtin.Slice.sliceApplied Builtin.Slice.sliceFields
  refine wpAny_bind (wpAny_bind (wpAny_field hos hds (x := vl) rfl (wpAny_bind (wpAny_field hos hds (x := vu) rfl (wpAny_bind (wpAny_field hos hds (x := .int (-1) t) rfl (wpAny_pure ?_)))))))
  refine wpAny_bind (slicePart_int ?_)
  show wpAny _ _ (if ((-1 : Int) == 0) = true then _ else _) _ _ s
  rw [if_neg (by decide)]
  refine wpAny_bind (HT.slicePart_ pl (wpAny_bind (HT.slicePart_ pu (wpAny_bind (wpAny_pure ?_)))))
  show wpAny _ _ (match Builtin.Slice.sliceAdjust none none (-1) (n : Int) with | (lo, hi) => pure (lo, (-1 : Int), Builtin.Slice.slicePlaces lo hi (-1))) _ _ s
  have e1 : Builtin.Slice.sliceAdjust none none (-1) (n : Int) = ((n : Int) - 1, -1) := rfl
  rw [e1]
  have e2 : Builtin.Slice.slicePlaces ((n : Int) - 1) (-1) (-1) = n := by
    unfold Builtin.Slice.slicePlaces
    rw [if_neg (by decide)]
    by_cases h0 : (n : Int) - 1 > -1
    · rw [if_pos h0]
      have : ((n : Int) - 1 - -1 - 1) / (- -1) + 1 = n := by
        have : (- -1 : Int) = 1 := by decide
        rw [this, Int.ediv_one]; omega
      rw [this]; omega
    · rw [if_neg h0]; omega
  show wpAny _ _ (pure ((n : Int) - 1, (-1 : Int), Builtin.Slice.slicePlaces ((n : Int) - 1) (-1) (-1))) _ _ s
  rw [e2]
  exact wpAny_pure h
theorem fm_congr {α β : Type} {f g : α → Option β} : ∀ {l : List α}, (∀ a ∈ l, f a = g a) → l.filterMap f = l.filterMap g
  | [], _ => rfl
  | a :: l, h => by
    rw [List.filterMap_cons, List.filterMap_cons, h a List.mem_cons_self, fm_congr fun b hb => h b (List.mem_cons_of_mem _ hb)]
theorem pick_rev (xs : Array Value) : ((List.range xs.size).filterMap fun (k : Nat) => xs[((xs.size : Int) - 1 + (k : Int) * -1).toNat]?).toArray = xs.toList.reverse.toArray := by
  congr 1
  have h1 : ((List.range xs.size).filterMap fun (k : Nat) => xs[((xs.size : Int) - 1 + (k : Int) * -1).toNat]?) = (List.range xs.size).filterMap fun k => xs[xs.size - 1 - k]? := by
    refine fm_congr fun k hk => ?_
    have := List.mem_range.mp hk
    have e : ((xs.size : Int) - 1 + (k : Int) * -1).toNat = xs.size - 1 - k := by omega
    rw [e]
  rw [h1]
  have h2 : ((List.range xs.size).filterMap fun k => xs[xs.size - 1 - k]?) = ((List.range xs.size).map fun k => xs.size - 1 - k).filterMap (xs[·]?) := by
    rw [List.filterMap_map]; rfl
  rw [h2, PySem.W.krv_range, List.filterMap_reverse, PySem.W.krv_all]
theorem getItem_tuple_rev {t sl : Addr} {items : Array Value} {vl vu : Value} {tk : Tok} {Q : Value → Shared → Prop} (ht : IsTup s.heap t items) (hs : s.heap.IsSliceOf sl vl vu (.int (-1) tk)) (pl : IsPart vl none) (pu : IsPart vu none)
    (h : Q (.ref s.heap.objs.size) { s with heap := s.heap.push { cls := .type "tuple", data := .seq items.toList.reverse.toArray } })
    (hsz : items.size ≤ sizeLine) : wpAny (model prog w) A (getItem (.ref t) (.ref sl)) Q E s := by
  have htake : sizeOk (.seq items.toList.reverse.toArray) := by
    show items.toList.reverse.toArray.size ≤ sizeLine
    rw [List.size_toArray, List.length_reverse, Array.length_toList]
    exact hsz
  obtain ⟨os, hos, hcs, hds⟩ := id hs
  have hTs : s.TypeIs (.ref sl) "slice" := ⟨os, hos, hcs⟩
  unfold getItem
  try with_reducible refine wpAny_holding ?_
  first | refine wpAny_bind (wpAny_pure ?_) | skip
  refine wpAny_bind (wpAny_sequenceKey ht.typeIs (by decide) ?_)
  refine wpAny_bind (wpAny_callSpecial?_slot (name := Str.ofString "__getitem__") ht.typeIs PyProof.Rows.slot_tuple_getitem
    (wpAny_call_entry PyProof.Rows.slot_tuple_getitem ht.typeIs entry_tuple_getitem ?_ (args_tuple_getitem _ _)))
  show wpAny _ _ (Builtin.Tuple.tupleItemsOf (.ref t) >>= _) _ _ s
  refine wpAny_bind (tupleItemsOf_ ht ?_)
  refine wpAny_bind (wpAny_typeOf hTs ?_)
  rw [if_pos (by decide)]
  refine wpAny_bind (sliceApplied_rev hs pl pu ?_)
  have hno : ¬ (((items.size : Int) - 1 == 0 && (-1 : Int) == 1 && items.size == items.size) = true) := by simp
  show wpAny _ _ (if ((items.size : Int) - 1 == 0 && (-1 : Int) == 1 && items.size == items.size) = true then _ else _) _ _ s
  rw [if_neg hno, pick_rev]
  first
    | exact wpAny_bind (m := Builtin.Tuple.tupleExact _) (wpAny_newObj_type (wpAny_pure ⟨_, rfl, wpAny_pure h⟩) htake)
    | exact wpAny_bind (m := Builtin.Tuple.tupleExact _) (wpAny_newObj_type (wpAny_bind (wpAny_pure (wpAny_pure ⟨_, rfl, wpAny_pure h⟩))) htake)
    | exact wpAny_bind (wpAny_bind (m := Builtin.Tuple.tupleExact _) (wpAny_newObj_type (wpAny_pure (wpAny_pure ⟨_, rfl, wpAny_pure h⟩)) htake))
    | exact wpAny_bind (wpAny_bind (m := Builtin.Tuple.tupleExact _) (wpAny_newObj_type (wpAny_pure ⟨_, rfl, wpAny_pure h⟩) htake))
end

section
variable {Z : Wd} {X : Cx} {e a b c : Expr} {pos p p1 p2 p3 : Pos} {k : Nat}
/-! ### [::-1] -/
theorem pe_revB {te : TE} (he : PE X e te) : PE X (.Subscript e (.Slice none none (some (.UnaryOp .USub (.Constant (.int 1) k p1) p2)) p3) pos)
    (fun σ H Q => te σ H fun x H1 => ∃ t a xs, x = .ref a ∧ SqB t X.K H1 a xs ∧ ∀ p, H1 p = none → Q (.ref p) (upd H1 p (match t with | true => .tup xs.reverse | false => .lst xs.reverse))) := by
  refine ⟨fun pins s σ H Q I h => ?_⟩
  refine Subscript_ (thn (he.run pins s σ H _ I h) fun v s1 ⟨x, H1, I1, r1, q1⟩ => ?_)
  obtain ⟨t, a, xs, ex, hx, q⟩ := q1
  subst ex
  cases r1
  have hst : PO X (some (.UnaryOp .USub (.Constant (.int 1) k p1) p2)) (tPart (tUn (rU fun i => .int (-i)) (tC (.int 1)))) := po_some (pe_un un_neg pe_int)
  refine wpAny_Slice (thn (po_none.run pins s1 σ H1 (fun o H2 => o = none ∧ H2 = H1) I1 ⟨rfl, rfl⟩) fun vl s2 ⟨l, H2, I2, pl, el, e2⟩ => ?_)
  subst el e2
  refine thn (po_none.run pins s2 σ H2 (fun o H3 => o = none ∧ H3 = H2) I2 ⟨rfl, rfl⟩) fun vu s3 ⟨u, H3, I3, pu, eu, e3⟩ => ?_
  subst eu e3
  refine thn (hst.run pins s3 σ H3 (fun o H4 => o = some (-1) ∧ H4 = H3) I3 ⟨1, rfl, -1, rfl, rfl, rfl⟩) fun vs s4 ⟨o, H4, I4, ps, eo, e4⟩ => ?_
  subst eo e4
  have I5 : L2.Inv X pins σ H4 { s4 with heap := s4.heap.push { cls := .type "slice", data := .fields #[vl, vu, vs] } } := I4.kept (t' := s4.toks) fun b ob q => Heap.get?_push_of_some _ q
  show wpAny (model X.prog X.w) X.A (subscriptTail e (.Slice none none (some (.UnaryOp .USub (.Constant (.int 1) k p1) p2)) p3) (.ref a) (.ref s4.heap.objs.size)) (EP X pins σ Q) X.xe { s4 with heap := s4.heap.push { cls := .type "slice", data := .fields #[vl, vu, vs] } }
  cases t with
  | false =>
    obtain ⟨its, r, ht, hz⟩ := I5.list hx
    have hlen := r.length
    refine tail_any (ops := [.ref a, .ref s4.heap.objs.size]) ht.isList.typeIs (PySem.slot_list_getitem.lookup) ?_ (by with_unfolding_all rfl)
    refine wpAny_getItem_list_slice ht.isList (Heap.IsSliceOf.new _ vl vu vs) pl pu ps (by decide) ?_ (by rw [List.size_toArray]; omega)
    rw [PySem.W.krv_pick]
    refine ⟨.ref _, _, I5.laid (t' := s4.toks) (o := .lst xs.reverse) (fun b ob q => Heap.get?_push_of_some _ q) (Nat.le_refl _) ?_, rfl, q _ (I5.hok.fresh (Nat.le_refl _))⟩
    exact ⟨by rw [List.length_reverse]; exact hz, _, 0, r.reverse, Heap.get?_push_size _ rfl⟩
  | true =>
    obtain ⟨its, r, ht, hz⟩ := I5.tuple hx
    have hlen := r.length
    obtain ⟨tk, rfl⟩ : ∃ tk, vs = .int (-1) tk := by cases ps; exact ⟨_, rfl⟩
    refine tail_any (ops := [.ref a, .ref s4.heap.objs.size]) ht.typeIs (PyProof.Rows.slot_tuple_getitem.lookup) ?_ (by with_unfolding_all rfl)
    refine getItem_tuple_rev ht (Heap.IsSliceOf.new _ vl vu (.int (-1) tk)) pl pu ?_ (by rw [List.size_toArray]; omega)
    refine ⟨.ref _, _, I5.laid (t' := s4.toks) (o := .tup xs.reverse) (fun b ob q => Heap.get?_push_of_some _ q) (Nat.le_refl _) ?_, rfl, q _ (I5.hok.fresh (Nat.le_refl _))⟩
    exact ⟨by rw [List.length_reverse]; exact hz, _, r.reverse, IsTup.new _ _⟩
theorem d_rev {ma : E} (he : PE X e (tD Z ma)) : PE X (.Subscript e (.Slice none none (some (.UnaryOp .USub (.Constant (.int 1) k p1) p2)) p3) pos) (tD Z (e1 opRev ma)) := PE.imp (pe_revB he) fun σ H Q ⟨C, L, ρ, d, ρ', s, hm, q⟩ => by
  obtain ⟨x, ρ1, h1, hm1⟩ := bnd_inv hm
  obtain ⟨y, h2, e⟩ := lift_inv hm1
  cases e
  refine ⟨C, L, ρ, x, _, s, h1, fun v H1 L1 sm s1 r => ?_⟩
  cases x with
  | tup ds =>
    cases h2
    obtain ⟨a, xs, rfl, ea, rr⟩ := r.tup_inv
    refine ⟨true, a, xs, rfl, SqT.of (avoid_le _ _ ea), fun p hp => ?_⟩
    exact q _ _ L1 (sm.trans (Fz_ext (same_upd hp))) (s1.ext (same_upd hp)) (rep_new (s1.fresh hp) hp (.tup rr.reverse))
  | lst ds =>
    cases h2
    obtain ⟨a, xs, rfl, ea, rr⟩ := r.lst_inv
    refine ⟨false, a, xs, rfl, SqL.of (avoid_le _ _ ea), fun p hp => ?_⟩
    exact q _ _ L1 (sm.trans (Fz_ext (same_upd hp))) (s1.ext (same_upd hp)) (rep_new (s1.fresh hp) hp (.lst rr.reverse))
  | _ => cases h2

/-! ### list(..) -/
theorem callR_of_n {f : Value} {op : List D → Option D} (h : CallR X f (rNs Z op)) : CallR X f (rDs Z op) := by
  intro pins s σ H xs us Q I r ⟨N, ds, d', tk, r1, hf, q⟩
  exact h pins s σ H xs us Q I r ⟨N, ds, d', tk, r1, hf, fun p o hp rr => q _ _ (same_upd hp) (rep_new (tk.no hp) hp rr)⟩
theorem nc1 {f : Value} {r : List V → Hp → VK → Prop} {op : D → Option D} (h : CallR X f r) (i : ∀ H N v d d' Q, Tk H N → Rep Z (avoid H N) v d → op d = some d' → (∀ (p : Addr) (o : HO), H p = none → RepO Z (avoid H N) p o d' → Q (.ref p) (upd H p o)) → r [v] H Q) : CallR X f (rNs Z (a1 op)) := by
  intro pins s σ H xs us Q I rx ⟨N, ds, d', tk, r1, hf, q⟩
  obtain ⟨d, rfl, hf⟩ := a1_inv hf
  obtain ⟨v, rfl, r2⟩ := r1.one
  exact h pins s σ H _ us Q I rx (i H N v d d' Q tk r2 hf q)
/-- a dict's keys' addresses and their values -/
theorem vals_refs' : ∀ bs : List Addr, Vals (bs.map V.ref) (bs.map Value.ref)
  | [] => .nil
  | _ :: r => .cons rfl (vals_refs' r)
theorem keys_items {P : Program} {w : World} {es : Array DictEntry} {xs : List (NestedKey × Addr × Value)} (he : es.toList = xs.map (entryOfKey (nestedKind P w))) {acc : Array Value} (it : ItemsOf (fun i v => ∃ en : DictEntry, es[i]? = some en ∧ v = en.key) acc es.size) :
    acc.toList = (xs.map fun x => x.2.1).map Value.ref := by
  have l1 : es.size = xs.length := size_of_entries he
  have hl : acc.toList.length = xs.length := by rw [Array.length_toList, it.1]; exact l1
  rw [List.map_map]
  apply List.ext_getElem?
  intro j
  rw [List.getElem?_map]
  cases hj : acc.toList[j]? with
  | none =>
    have h1 := List.getElem?_eq_none_iff.mp hj
    rw [List.getElem?_eq_none (by omega)]
    rfl
  | some v =>
    obtain ⟨en, hen, hv⟩ := it.2 j v (by rw [← Array.getElem?_toList]; exact hj)
    have qe := entry_at he j
    rw [hen] at qe
    cases hb : xs[j]? with
    | none => rw [hb] at qe; exact nomatch (show some en = none from qe)
    | some b =>
      rw [hb] at qe
      have e2 : en = entryOfKey (nestedKind P w) b := Option.some.inj qe
      rw [hv, e2]
      rfl
theorem call_list_dic (ok : OkX Z X) : CallR X (.type "list") (fun xs H Q => ∃ (F : Hp) (l : Addr) (ho : HO) (kvs : List (D × D)), xs = [V.ref l] ∧ Same F H ∧ H l = some ho ∧ RepO Z F l ho (.dic kvs) ∧ ∀ p ys, H p = none → RepL Z F ys (kvs.map (·.1)) → Q (.ref p) (upd H p (.lst ys))) := by
  intro pins s σ H xs us Q I r h
  obtain ⟨F, l, ho, kvs, rfl, sm, hl, ro, q⟩ := h
  obtain ⟨u, rfl, rx⟩ := r.one
  cases rx
  obtain ⟨xs, hS, ⟨o, es, ep, h1, h2, h3, h4, h5, h6⟩, rd, hz, _⟩ := dic_of I.hok sm ok.P ok.w hl ro
  have l1 : es.size = xs.length := size_of_entries h4
  refine PySem.W.kdl_call (kdl_raw hS h2 h3) (I.ok.hd ok.calm) h1 (sizeM (by rw [l1, rd.length]; exact hz)) fun h' tk acc' c' kp e it => ?_
  have eb := keys_items h4 it
  have rv : Vals ((xs.map fun x => x.2.1).map V.ref) acc'.toList := by rw [eb]; exact vals_refs' _
  have hzz : ((xs.map fun x => x.2.1).map V.ref).length ≤ sizeLine := by rw [List.length_map, List.length_map]; exact sizeM (by rw [rd.length]; exact hz)
  refine ⟨.ref s.heap.objs.size, _, I.laid (t' := tk) (o := .lst ((xs.map fun x => x.2.1).map V.ref)) kp (Nat.le_refl _) ?_, rfl, q _ _ (I.hok.fresh (Nat.le_refl _)) ?_⟩
  · exact ⟨hzz, acc'.toList, c', rv, by rw [Array.toArray_toList]; exact e⟩
  · rw [List.map_map]; exact rd.keys
theorem n_list (ok : OkX Z X) : CallR X (.type "list") (rNs Z (a1 opList)) := by
  intro pins s σ H xs us Q I rx ⟨N, ds, d', tk, r1, hf, q⟩
  obtain ⟨d, rfl, hf2⟩ := a1_inv hf
  clear hf
  obtain ⟨v, rfl, r⟩ := r1.one
  unfold opList at hf2
  split at hf2
  · cases hf2
    obtain ⟨a, ys, rfl, ea, rr⟩ := r.lst_inv
    exact call_list_of pins s σ H _ us Q I rx ⟨a, ys, rfl, .inl (SqL.of (avoid_le _ _ ea)), fun l hl => q l _ hl (.lst rr)⟩
  · cases hf2
    obtain ⟨a, ys, rfl, ea, rr⟩ := r.tup_inv
    exact call_list_of pins s σ H _ us Q I rx ⟨a, ys, rfl, .inr (SqT.of (avoid_le _ _ ea)), fun l hl => q l _ hl (.lst rr)⟩
  · cases hf2
    obtain ⟨a, ho, rfl, ea, rr⟩ := r.dic_inv
    exact call_list_dic ok pins s σ H _ us Q I rx ⟨_, a, ho, _, rfl, avoid_le, avoid_le _ _ ea, rr, fun p ys hp rk => q p _ hp (.lst rk)⟩
  · cases hf2
theorem c_list (ok : OkX Z X) : CallR X (.type "list") (rDs Z (a1 opList)) := callR_of_n (n_list ok)
variable {T : String} {es : List Expr}
/-- a new container by a call -/
theorem n_callTy {x : Str} {f : List D → Option D} {ms : List E} (hc : CallR X (.type T) (rNs Z f)) (hg : Gl X x) (hm : X.mg x = none) (hv : bootBuiltins x = some (.type T)) (ha : PA X (e :: es) (tDs Z (args ms))) (hn : x ≠ "__name__" := by decide) (hdb : (x == ("__debug__" : Str)) = false := by decide)
    (he : starEach (e :: es) X.env = (false, eval e X.env) :: starEach es X.env := by rfl) (hpl : (backTo pos (starEach es X.env)).any (·.1) = false := by rfl) : PE X (.Call (.Name x p) (e :: es) [] pos) (tN Z (eCall f ms)) :=
  PE.imp (pe_callTy hc hg hm hv ha hn hdb he hpl) fun σ H Q ⟨C, L, ρ, d, ρ', s, hm, q⟩ => by
    obtain ⟨xs, ρ1, h1, hm1⟩ := bnd_inv hm
    obtain ⟨y, h2, e⟩ := lift_inv hm1
    cases e
    exact ⟨C, L, ρ, xs, _, s, h1, fun vs H1 L1 sm s1 r => ⟨L1 ++ C.N, xs, d, s1.trk, r, h2, fun p o hp rr => own_new s1 hp rr sm q⟩⟩
/-- list(range(n)) -/
theorem d_lstRng {ma : E} {p' pos' : Pos} (ok : OkX Z X) (hg : Gl X "list") (hm : X.mg "list" = none) (hg2 : Gl X "range") (hm2 : X.mg "range" = none) (ha : PE X a (tD Z ma)) (na : starEach [a] X.env = (false, eval a X.env) :: starEach [] X.env := by rfl) (na2 : starEach [.Call (.Name "range" p') [a] [] pos'] X.env = (false, eval (.Call (.Name "range" p') [a] [] pos') X.env) :: starEach [] X.env := by rfl) :
    PE X (.Call (.Name "list" p) [.Call (.Name "range" p') [a] [] pos'] [] pos) (tD Z (eLstRng ma)) := PE.imp (pe_listRg ok.calm hg hm (prg_1 hg2 hm2 ha na) na2) fun σ H Q ⟨C, L, ρ, d, ρ', s, hm, q⟩ => by
  obtain ⟨x, ρ1, h1, hm1⟩ := bnd_inv hm
  refine ⟨C, L, ρ, x, _, s, h1, fun v H1 L1 sm s1 r => ?_⟩
  cases x with
  | int n =>
    have hm1 : (if 0 ≤ n ∧ n ≤ 1000000 then Pd.ret (.lst ((List.range n.toNat).map fun (j : Nat) => D.int j)) else Pd.fail) ρ1 = some (d, ρ') := hm1
    by_cases hn : 0 ≤ n ∧ n ≤ 1000000
    · rw [if_pos hn] at hm1
      cases hm1
      refine ⟨n, r.int_inv, ⟨by omega, by omega, by omega, by omega, by omega⟩, fun p hp => ?_⟩
      refine q _ _ L1 (sm.trans (Fz_ext (same_upd hp))) (s1.ext (same_upd hp)) (rep_new (s1.fresh hp) hp (.lst ?_))
      have e1 : rgV 0 n = ((List.range n.toNat).map fun (j : Nat) => (j : Int)).map V.int := by
        unfold rgV
        rw [List.map_map, Int.sub_zero]
        refine List.map_congr_left fun j _ => ?_
        show V.int (0 + (j : Int)) = V.int (j : Int)
        rw [Int.zero_add]
      have e2 : ((List.range n.toNat).map fun (j : Nat) => D.int j) = ((List.range n.toNat).map fun (j : Nat) => (j : Int)).map D.int := by rw [List.map_map]; rfl
      rw [e1, e2]
      exact RepL.ints
    · rw [if_neg hn] at hm1; cases hm1
  | _ => cases hm1

/-! ### len(set(..)) -/
theorem firsts_met (ns : List Int) : (PyProof.Rows.firstMet (fun i => ns.getD i 0) ns.length) = firsts [] ns := by
  unfold PyProof.Rows.firstMet
  have e : (List.range ns.length).map (fun i => ns.getD i 0) = ns := by
    apply List.ext_getElem?
    intro j
    rw [List.getElem?_map]
    by_cases hj : j < ns.length
    · rw [List.getElem?_range hj, List.getElem?_eq_getElem hj]
      show some (ns.getD j 0) = _
      rw [List.getD_eq_getElem?_getD, List.getElem?_eq_getElem hj]
      rfl
    · rw [List.getElem?_eq_none (by rw [List.length_range]; omega), List.getElem?_eq_none (by omega)]
      rfl
  rw [e]
  have go : ∀ (ks acc : List Int), ks.foldl step_dedup acc = firsts acc ks := by
    intro ks
    induction ks with
    | nil => intro acc; rfl
    | cons k ks ih => intro acc; rw [List.foldl_cons, ih]; rfl
  exact go ns []
theorem d_lenSet {ma : E} {p' pos' : Pos} (ok : OkX Z X) (hg : Gl X "len") (hm : X.mg "len" = none) (hg2 : Gl X "set") (hm2 : X.mg "set" = none) (ha : PE X a (tD Z ma)) (na : starEach [a] X.env = (false, eval a X.env) :: starEach [] X.env := by rfl) :
    PE X (.Call (.Name "len" p) [.Call (.Name "set" p') [a] [] pos'] [] pos) (tD Z (e1 opSetLen ma)) := by
  have hp : PE X (.Call (.Name "len" p) [.Call (.Name "set" p') [a] [] pos'] [] pos) (fun σ H Q => tD Z ma σ H fun x H1 => ∃ (l : Addr) (ns : List Int), x = .ref l ∧ SqL X.K H1 l (ns.map V.int) ∧ ns.length ≤ 4000 ∧ Q (.int (firsts [] ns).length) H1) := by
    refine ⟨fun pins s σ H Q I h => ?_⟩
    refine Call_ (ld_blt I hg hm boot_len ?_)
    refine PyProof.Rows.callWith_builtin1 (PyProof.Rows.args_cons ?_ rfl) rfl rfl
    refine Call_ (ld_blt I hg2 hm2 boot_set ?_)
    refine PyProof.Rows.callWith_type1 (PyProof.Rows.args_cons (thn (ha.run pins s σ H _ I h) fun v s1 ⟨x, H1, I1, r1, q1⟩ => PyProof.Rows.args_nil ?_) na) na rfl
    obtain ⟨l, ns, rfl, hq, hl, q1⟩ := q1
    cases r1
    obtain ⟨its, r, pl, hz⟩ := I1.list hq
    have hlen : its.toArray.size = ns.length := by rw [List.size_toArray, ← r.length, List.length_map]
    refine call_set_list (I1.ok.hd ok.calm) pl.isList (by simpa using RZ.intsAre_vals r) (by rw [hlen]; unfold scanBound; omega) fun h' tk hS hk => ?_
    refine PyProof.Rows.args_nil ?_
    rw [hlen, firsts_met] at hS
    obtain ⟨o, es, ep, t, ho, hex, hd, _, _, _, hf, hn⟩ := hS
    have I2 : L2.Inv X pins σ H1 { s1 with heap := h', toks := tk } := I1.kept fun b o e => hk b o (Heap.lt_size e) e
    have hb := PyProof.Rows.firstMet_length_le (fun i => ns.getD i 0) ns.length
    rw [firsts_met] at hb
    exact call_len_set ho hex hd hf (by rw [hn] <;> omega) ⟨.int (firsts [] ns).length, H1, I2.tok _, ⟨_, by rw [hn]⟩, q1⟩
  refine PE.imp hp fun σ H Q ⟨C, L, ρ, d, ρ', s, hm, q⟩ => ?_
  obtain ⟨x, ρ1, h1, hm1⟩ := bnd_inv hm
  obtain ⟨y, h2, e⟩ := lift_inv hm1
  cases e
  refine ⟨C, L, ρ, x, _, s, h1, fun v H1 L1 sm s1 r => ?_⟩
  cases x with
  | lst ds =>
    have h2 : (if ds.length ≤ 1000 then (ds.mapM int?).map (fun is => D.int (firsts [] is).length) else none) = some d := h2
    by_cases hl : ds.length ≤ 1000
    · rw [if_pos hl] at h2
      obtain ⟨is, e1, rfl⟩ := map_some h2
      obtain ⟨a, xs, rfl, ea, rr⟩ := r.lst_inv
      have e2 := rr.mapM_int e1
      subst e2
      refine ⟨a, is, rfl, SqL.of (avoid_le _ _ ea), ?_, q _ H1 L1 sm s1 (.int _)⟩
      have := rr.length
      rw [List.length_map] at this
      omega
    · rw [if_neg hl] at h2; cases h2
  | _ => cases h2
end
end Pd
end
section
set_option Elab.async false
set_option linter.all false
set_option maxRecDepth 100000
set_option maxHeartbeats 4000000
/-! PdSort: sorted(..) of lists, tuples, dicts of nested data. -/
namespace PySem.W
open PySem PySem.Calls PyProof.Rows
section
variable {prog : Program} {w : World} {A : Around} {E : Value → Shared → Prop} {s : Shared}
theorem sorted_col {r : Value} {vs : List Value} {κ : Heap → PyProof.Rows.KeyKind} {Q : Value → Shared → Prop}
    (hc : ∀ (E' : Value → Shared → Prop) (R : List Value → Shared → Prop), (∀ h' tk, s.heap.objs.size ≤ h'.objs.size → (∀ b o, s.heap.get? b = some o → h'.get? b = some o) → R vs { s with heap := h', toks := tk }) → wpAny (model prog w) A.in1 (collect r) R E' s)
    (S : ∀ s2 : Shared, (∀ b o, s.heap.get? b = some o → s2.heap.get? b = some o) → SortsAt prog w A.in1.in1 s2 (κ s2.heap) vs) (hL : vs.length ≤ sizeLine)
    (h : ∀ (D : Addr) (h2 h'' : Heap) (tk e : Nat), s.heap.objs.size ≤ D → (∀ b o, s.heap.get? b = some o → h2.get? b = some o) → (∀ b o, s.heap.get? b = some o → h''.get? b = some o) → h''.get? D = some (seqObj "list" (sortVals (κ h2) false vs vs).toArray e) → Q (.ref D) { s with heap := h'', toks := tk }) :
    wpAny (model prog w) A (call (.builtin "sorted") [r]) Q E s := by
  refine call_function_entry_kw (kw := []) kind_sorted plain_sorted entry_sorted (args_sorted1 _) ?_
  unfold Builtin.«sorted»
  refine wpAny_bind (m := checkCount "sorted" 1 1 _) (wpAny_pure ?_)
  refine wpAny_bind (hc _ _ fun h' tk hle hk => ?_)
  refine wpAny_bind (wpAny_newList ?_ hL)
  show wpAny _ _ _ _ _ { s with heap := h'.push (seqObj "list" vs.toArray 0), toks := tk }
  have hD : (h'.push (seqObj "list" vs.toArray 0)).get? h'.objs.size = some (seqObj "list" vs.toArray 0) := Heap.get?_push_size _ rfl
  refine wpAny_bind (wpAny_holding (wpAny_call_entry_kw slot_list_sort ⟨_, hD, rfl⟩ entry_list_sort ?body (args_list_sort _)))
  case body =>
    show wpAny (model prog w) A.in1.in1 (Builtin.«list.sort» ⟨[.ref h'.objs.size], []⟩) _ _ _
    refine list_sort_vals (s := { s with heap := h'.push (seqObj "list" vs.toArray 0), toks := tk }) hD (S _ fun b o e => ?_) hL ?_
    · exact sortingHeap_old (Nat.ne_of_lt (Heap.lt_size (hk b o e))) (Heap.get?_push_of_some _ (hk b o e))
    · refine ⟨_, rfl, wpAny_pure ⟨_, rfl, ?_⟩⟩
      obtain ⟨e, he⟩ := sortedHeap_at (out := (sortVals (κ (sortingHeap (h'.push (seqObj "list" vs.toArray 0)) h'.objs.size vs)) false vs vs).toArray) hD
      refine h h'.objs.size (sortingHeap (h'.push (seqObj "list" vs.toArray 0)) h'.objs.size vs) _ tk e hle (fun b o e => sortingHeap_old (Nat.ne_of_lt (Heap.lt_size (hk b o e))) (Heap.get?_push_of_some _ (hk b o e))) (fun b o e => ?_) he
      have hlt := Heap.lt_size (hk b o e)
      exact (sortedHeap_old (Nat.ne_of_lt hlt) (by rw [Heap.size_push]; exact Nat.lt_succ_of_lt hlt)).trans (Heap.get?_push_of_some _ (hk b o e))
/-- list(t)'s items, t a tuple -/
theorem collect_tup {l : Addr} {vs : List Value} {Q : List Value → Shared → Prop} (hl : s.heap.IsTuple l vs.toArray)
    (h : Q vs { s with heap := (s.heap.push (seqObj "list" #[] 0)).update s.heap.objs.size (Obj.mapSeq (· ++ vs.toArray)) }) (hsz : vs.length ≤ sizeLine := by size_fits) :
    wpAny (model prog w) A (collect (.ref l)) Q E s := by
  obtain ⟨o, ho, hc, n, hd⟩ := id hl
  unfold collect
  refine wpAny_bind (wpAny_runValue (codeAny_builtin entry_proto_collect' ?_))
  show wpAny _ _ (do again (.builtin "list.__iadd__" ⟨[← newList [], .ref l], []⟩)) _ _ s
  refine wpAny_bind (wpAny_newList (wpAny_pure ⟨Code.quiet_builtin _ (by decide +kernel), codeAny_builtin entry_list_iadd' ?_⟩))
  show wpAny _ _ (Builtin.List.listExtendWith (.ref s.heap.objs.size) (.ref l) (.ref s.heap.objs.size)) _ _ { s with heap := s.heap.push (seqObj "list" #[] 0) }
  unfold Builtin.List.listExtendWith
  have ho' : (s.heap.push (seqObj "list" #[] 0)).get? l = some o := Heap.get?_push_of_some _ ho
  refine wpAny_bind (wpAny_typeOf (T := "tuple") ⟨o, ho', hc⟩ ?_)
  have ht : (Value.type "tuple" == Value.type "tuple") = true := by rfl
  rw [if_pos (by rw [ht]; simp)]
  refine wpAny_bind (listItems_at ho' hd ?_)
  refine wpAny_bind (listItems_at (xs := #[]) (n := 0) (Heap.get?_push_size _ rfl) rfl ?_)
  rw [if_neg (by simp)]
  refine wpAny_bind (listUpdate_at (xs := #[]) (n := 0) (Heap.get?_push_size _ rfl) rfl ?_ (Nat.zero_le _) (by show (#[] ++ vs.toArray).size ≤ sizeLine + 1; simp only [Array.size_append, List.size_toArray, List.length_nil]; omega))
  refine wpAny_pure ?_
  show wpAny (model prog w) A (do
      let o ← load s.heap.objs.size
      match o.data with
      | .seq xs _ => pure xs.toList
      | _ => unsupported "internal:collect") Q E { s with heap := (s.heap.push (seqObj "list" #[] 0)).update s.heap.objs.size (Obj.mapSeq (· ++ vs.toArray)) }
  refine wpAny_bind (wpAny_load (get?_update_seq (Heap.get?_push_size _ rfl) _) ?_)
  show wpAny _ _ (pure ((#[] : Array Value) ++ vs.toArray).toList) Q E _
  rw [show ((#[] : Array Value) ++ vs.toArray).toList = vs by simp]
  exact wpAny_pure h
theorem kdu_collect2 {T : String} {r d : Addr} {n : Nat} {P : Nat → Value → Prop} {OK : Heap → Prop} {R : List Value → Shared → Prop} (K : KdlSrc prog w T r d n P OK) (hh : A.handled = none) (hok : OK s.heap) (hn : n ≤ sizeLine)
    (h : ∀ (h' : Heap) (tk : Nat) (acc : Array Value), s.heap.objs.size ≤ h'.objs.size → (∀ b o, s.heap.get? b = some o → h'.get? b = some o) → ItemsOf P acc n → R acc.toList { s with heap := h', toks := tk }) :
    wpAny (model prog w) A (collect (.ref r)) R E s := by
  have hlt := K.there _ hok
  unfold collect
  refine wpAny_bind (wpAny_runValue (codeAny_builtin entry_proto_collect' ?_))
  rw [Around.under_plainId PySem.F.plain_proto_collect _]
  show wpAny _ A.in1 (newList [] >>= fun l => again (.builtin "list.__iadd__" ⟨[l, .ref r], []⟩)) _ _ s
  refine wpAny_bind (wpAny_newObj_type ?_)
  refine wpAny_pure ⟨plainId_quiet PySem.F.plain_list_iadd _, codeAny_builtin entry_list_iadd' ?_⟩
  rw [Around.under_plainId PySem.F.plain_list_iadd _]
  have hS₁ : (s.heap.push { cls := .type "list", data := .seq ([] : List Value).toArray }).get? s.heap.objs.size = some { cls := .type "list", data := .seq #[] } := Heap.get?_push_size _ rfl
  show wpAny _ A.in1 (Builtin.List.listExtendWith (.ref s.heap.objs.size) (.ref r) (.ref s.heap.objs.size)) _ _ _
  have key := kdl_extend (A := A) (s := { s with heap := s.heap.push { cls := .type "list", data := .seq ([] : List Value).toArray } })
    (R := fun (q : Result) (s' : Shared) => ∃ (h' : Heap) (tk : Nat) (acc' : Array Value) (c' : Nat), q = .ok (.ret (.ref s.heap.objs.size)) ∧ s' = { s with heap := h', toks := tk } ∧
      (∀ b o, s.heap.get? b = some o → h'.get? b = some o) ∧ h'.get? s.heap.objs.size = some { cls := .type "list", dict := none, data := .seq acc' c', slots := #[] } ∧ ItemsOf P acc' n)
    K hh (K.keep _ _ hok fun b _ o e => Heap.get?_push_of_some _ e) s.heap.objs.size (Nat.ne_of_gt hlt.1) (Nat.ne_of_gt hlt.2) (.ref s.heap.objs.size) 0 hS₁
    (fun h' tk acc' c' hk hS' hacc => ⟨h', tk, acc', c', rfl, rfl, fun b o e => hk b o (Nat.ne_of_lt (Heap.lt_size e)) (Heap.get?_push_of_some _ e), hS', hacc⟩) hn
  refine wpAny_mono key (fun fin s' x => ?_) fun e s' x => ?_
  · cases fin with
    | done f =>
      obtain ⟨h', tk, acc', c', e, rfl, hk, hS', hacc⟩ := x
      cases e
      show wpAny _ A (load s.heap.objs.size >>= _) _ _ _
      refine wpAny_bind (wpAny_load hS' ?_)
      exact wpAny_pure (h h' tk acc' (Nat.le_of_lt (Heap.lt_size hS')) hk hacc)
    | again c₁ =>
      refine ⟨x.1, codeAny_mono x.2 fun q s₂ y => ?_⟩
      obtain ⟨h', tk, acc', c', rfl, rfl, hk, hS', hacc⟩ := y
      show wpAny _ A (load s.heap.objs.size >>= _) _ _ _
      refine wpAny_bind (wpAny_load hS' ?_)
      exact wpAny_pure (h h' tk acc' (Nat.le_of_lt (Heap.lt_size hS')) hk hacc)
  · obtain ⟨_, _, _, _, e', _⟩ := x
    cases e'

/-! ### empty tuples -/
theorem first_empty {v : Value} {as : List Addr} {Q : Option Value → Shared → Prop} (r : Reads s.heap v (.tuple []) as) (h : Q none s) : wpAny (model prog w) A (firstOfTuple' v) Q E s := by
  cases r with
  | @tuple b o vs n _ _ h1 h2 h3 h4 =>
    have e : vs = #[] := by
      have hl := SeqAt.ReadsAll.length _ _ _ h4
      apply Array.eq_empty_of_size_eq_zero
      simpa using hl
    subst e
    rw [kas_first_eq]
    refine wpAny_bind (wpAny_typeOf (T := "tuple") ⟨o, h1, h2⟩ ?_)
    rw [if_neg (by decide)]
    refine wpAny_bind (listItems_at h1 h3 ?_)
    exact wpAny_pure h
theorem SortsAt.empties {vs : List Value} {ds : List PyData} (e : EachIs (fun v d => ∃ as, Reads s.heap v d as) vs ds) (he : ∀ d ∈ ds, d = .tuple []) (hu : A.units + 2 < cLine) : SortsAt prog w A s (dataKind s.heap ds) vs := by
  have hal : AllAlike ds := fun d hd d' hd' => by rw [he d hd, he d' hd']; simp [alike, alikeAll]
  refine ⟨fun v hv => ?_, oneType', ?_, fun h2 E Q hq => ?_⟩
  · obtain ⟨d, hd, as, r⟩ := e.left v hv
    exact ⟨_, dataKind_some hal hd r⟩
  · intro E x y a b Q ha hb hq
    obtain ⟨d, as, hd, ra, rfl⟩ := dataKind_inv ha
    obtain ⟨d', as', hd', rb, rfl⟩ := dataKind_inv hb
    have e1 := he d hd
    have e2 := he d' hd'
    subst e1 e2
    cases ra with
    | @tuple l o xs n _ _ h1 h2 h3 h4 =>
      cases rb with
      | @tuple l' o' xs' n' _ _ k1 k2 k3 k4 =>
        have n1 : xs = #[] := Array.eq_empty_of_size_eq_zero (by simpa using SeqAt.ReadsAll.length _ _ _ h4)
        have n2 : xs' = #[] := Array.eq_empty_of_size_eq_zero (by simpa using SeqAt.ReadsAll.length _ _ _ k4)
        subst n1 n2
        obtain ⟨cls, dd, dt, sl⟩ := o
        obtain ⟨cls2, dd2, dt2, sl2⟩ := o'
        simp only at h2 h3 k2 k3
        subst h2 h3 k2 k3
        rw [keyLt'_oneType, oneLt'_eq]
        simp only [if_true]
        refine wpAny_bind (wpAny_cRoomFor (by omega) ?_)
        refine wpAny_bind (wpAny_callSpecialIfBound?_slot (T := "tuple") ⟨_, h1, rfl⟩ PySem.F.slot_tuple_lt (call_meets PySem.F.slot_tuple_lt ⟨_, h1, rfl⟩ PySem.F.entry_tuple_lt (PySem.F.args_tuple_lt_2 _ _)
          (SeqAt.tuple_ltAt l l' #[] #[] n n' dd dd2 sl sl2 (fun _ => true) (fun _ => true)) ⟨h1, k1, (fun j h1 => absurd h1 (Nat.not_lt_zero _)), (fun j h1 => absurd h1 (Nat.not_lt_zero _)), ?_⟩))
        refine wpAny_truthy_bool ?_
        have e1 : dataLt (.tuple []) (.tuple []) = SeqAt.firstLt (fun _ => true) (fun _ => true) (decide ((#[] : Array Value).size < (#[] : Array Value).size)) (List.range (min (#[] : Array Value).size (#[] : Array Value).size)) := by
          rw [dataLt_tuple, lex_irrefl]
          rfl
        have hq' : Q (dataLt (.tuple []) (.tuple [])) s := hq
        rw [e1] at hq'
        exact hq'
  · rw [keyKind'_eq, List.mapM_toArray, map_eq_pure_bind]
    have hr : ∀ v ∈ vs, ∃ as, Reads s.heap v (.tuple []) as := fun v hv => by
      obtain ⟨d, hd, as, r⟩ := e.left v hv
      rw [he d hd] at r
      exact ⟨as, r⟩
    obtain ⟨v₁, v₂, rest, rfl⟩ : ∃ v₁ v₂ rest, vs = v₁ :: v₂ :: rest := by
      match vs, h2 with
      | [], h2 => simp at h2
      | [_], h2 => simp at h2
      | v₁ :: v₂ :: rest, _ => exact ⟨v₁, v₂, rest, rfl⟩
    refine wpAny_bind (wpAny_bind (kas_mapM (r := none) _ (fun v hv Q' hq => ?_) (wpAny_pure ?_)))
    · obtain ⟨as, r⟩ := hr v hv
      exact first_empty r hq
    · rw [if_neg (by simp), if_neg (by simp)]
      rw [oneTypeOnly'_eq, List.mapM_toArray, map_eq_pure_bind]
      refine wpAny_bind (wpAny_bind (wpAny_bind (kas_mapM (r := .type "tuple") _ (fun v hv Q' hq => ?_) (wpAny_pure ?_))))
      · obtain ⟨as, r⟩ := hr v hv
        exact (looks_reads r).here hq
      · have hall : ((List.map (fun _ => Value.type "tuple") (v₁ :: v₂ :: rest)).toArray.all fun x => x == Value.type "tuple") = true := by
          simp only [List.all_toArray, List.all_map, List.all_eq_true]
          intro _ _
          rfl
        have h0 : (List.map (fun _ => Value.type "tuple") (v₁ :: v₂ :: rest)).toArray[0]? = some (Value.type "tuple") := by simp
        rw [h0]
        simp only [hall, if_true]
        exact wpAny_pure (wpAny_pure hq)
end
end PySem.W
end
section
set_option Elab.async false
set_option linter.all false
set_option maxRecDepth 100000
set_option maxHeartbeats 4000000
/-! PdSort2: sorted(..) by data. -/
namespace Pd
open PySem PySem.Spec PyProof.Rows L2
open PySem.W (AllAlike Sortable dataKind SortsAt dataLe)

mutual
theorem alk_py : ∀ d e : D, alk d e = true → PySem.W.alike (toPy d) (toPy e) = true
  | .int i, e, h => by cases e <;> first | (simp [alk] at h; done) | simp [toPy, PySem.W.alike]
  | .tup ds, e, h => by
    cases e with
    | tup es =>
      rw [toPy, toPy, PySem.W.alike]
      exact alks_py ds es (by rw [alk] at h; exact h)
    | _ => simp [alk] at h
  | .non, _, h => by simp [alk] at h
  | .bl _, _, h => by simp [alk] at h
  | .rb _, _, h => by simp [alk] at h
  | .lst _, _, h => by simp [alk] at h
  | .dic _, _, h => by simp [alk] at h
  | .ins _ _, _, h => by simp [alk] at h
theorem alks_py : ∀ ds es : List D, alks ds es = true → PySem.W.alikeAll (toPys ds) (toPys es) = true
  | [], _, _ => by simp [toPys, PySem.W.alikeAll]
  | _ :: _, [], _ => by simp [toPys, PySem.W.alikeAll]
  | d :: ds, e :: es, h => by
    rw [alks, Bool.and_eq_true] at h
    rw [toPys, toPys, PySem.W.alikeAll, alk_py d e h.1, alks_py ds es h.2]; rfl
end
mutual
theorem alk_flat : ∀ d : D, alk d d = true → flat d = true
  | .int i, _ => rfl
  | .tup ds, h => by rw [flat]; exact alks_flat ds (by rw [alk] at h; exact h)
  | .non, h => by simp [alk] at h
  | .bl _, h => by simp [alk] at h
  | .rb _, h => by simp [alk] at h
  | .lst _, h => by simp [alk] at h
  | .dic _, h => by simp [alk] at h
  | .ins _ _, h => by simp [alk] at h
theorem alks_flat : ∀ ds : List D, alks ds ds = true → flats ds = true
  | [], _ => rfl
  | d :: ds, h => by
    rw [alks, Bool.and_eq_true] at h
    rw [flats, alk_flat d h.1, alks_flat ds h.2]; rfl
end
mutual
theorem lt_py : ∀ d e : D, alk d e = true → flat d = true → flat e = true → PySem.W.dataLt (toPy d) (toPy e) = lt d e
  | .int i, e, h, _, _ => by
    cases e with
    | int j => rw [toPy, toPy, PySem.W.dataLt_int, lt]
    | _ => simp [alk] at h
  | .tup ds, e, h, h1, h2 => by
    cases e with
    | tup es =>
      rw [toPy, toPy, PySem.W.dataLt_tuple, lt]
      exact lts_py ds es (by rw [alk] at h; exact h) (by rw [flat] at h1; exact h1) (by rw [flat] at h2; exact h2)
    | _ => simp [alk] at h
  | .non, _, h, _, _ => by simp [alk] at h
  | .bl _, _, h, _, _ => by simp [alk] at h
  | .rb _, _, h, _, _ => by simp [alk] at h
  | .lst _, _, h, _, _ => by simp [alk] at h
  | .dic _, _, h, _, _ => by simp [alk] at h
  | .ins _ _, _, h, _, _ => by simp [alk] at h
theorem lts_py : ∀ ds es : List D, alks ds es = true → flats ds = true → flats es = true → PyProof.Rows.lexLt itemOrd (PySem.W.keyToksAll (toPys ds)) (PySem.W.keyToksAll (toPys es)) = lts ds es
  | [], [], _, _, _ => by rw [toPys, lex_irrefl, lts]
  | [], e :: es, _, _, _ => by rw [toPys, toPys]; rfl
  | d :: ds, [], _, _, _ => by rw [toPys, toPys]; rfl
  | d :: ds, e :: es, h, h1, h2 => by
    rw [alks, Bool.and_eq_true] at h
    rw [flats, Bool.and_eq_true] at h1 h2
    rw [toPys, toPys, PySem.W.dataLt_cons (alk_py d e h.1), lts, eqv_py d e h1.1 h2.1, lts_py ds es h.2 h1.2 h2.2, lt_py d e h.1 h1.1 h2.1]
end

section
variable {Z : Wd} {X : Cx}
theorem allAlk_mem {ds : List D} (h : allAlk ds = true) : ∀ a ∈ ds, ∀ b ∈ ds, alk a b = true := fun a ha b hb => by
  unfold allAlk at h
  exact List.all_eq_true.mp (List.all_eq_true.mp h a ha) b hb
theorem sortD_py {ds : List D} (h : allAlk ds = true) : ds.mergeSort (dataLe false toPy) = sortD ds := by
  have := List.map_mergeSort (r := dataLe false toPy) (s := fun a b => !lt b a) (f := id) (l := ds) fun a ha b hb => by
    have e : dataLe false toPy a b = !PySem.W.dataLt (toPy b) (toPy a) := rfl
    rw [e, lt_py b a (allAlk_mem h b hb a ha) (alk_flat b (allAlk_mem h b hb b hb)) (alk_flat a (allAlk_mem h a ha a ha))]
    rfl
  rw [List.map_id, List.map_id] at this
  exact this
def RV (Z : Wd) (F : Hp) (v : Value) (d : D) : Prop := ∃ x, RelV x v ∧ Rep Z F x d
theorem each_of {F : Hp} : ∀ {xs : List V} {us : List Value} {ds : List D}, Vals xs us → RepL Z F xs ds → PySem.W.EachIs (RV Z F) us ds
  | _, _, _, .nil, .nil => .nil
  | _, _, _, .cons r t, .cons q u => .cons ⟨_, r, q⟩ (each_of t u)
theorem of_each {F : Hp} : ∀ {us : List Value} {ds : List D}, PySem.W.EachIs (RV Z F) us ds → ∃ xs, Vals xs us ∧ RepL Z F xs ds
  | _, _, .nil => ⟨[], .nil, .nil⟩
  | _, _, .cons ⟨x, h1, h2⟩ t => let ⟨xs, k1, k2⟩ := of_each t; ⟨x :: xs, .cons h1 k1, .cons h2 k2⟩
theorem each_reads {pins : List (Addr × Obj)} {σ : L2.St} {H : Hp} {s : Shared} {N : List Addr} (I : L2.Inv X pins σ H s) : ∀ {xs : List V} {us : List Value} {ds : List D}, Vals xs us → RepL Z (avoid H N) xs ds → (∀ d ∈ ds, flat d = true) → PySem.W.EachIs (fun v d => ∃ as, Reads s.heap v (toPy d) as) us ds
  | _, _, _, .nil, .nil, _ => .nil
  | _, _, _, .cons r t, .cons q u, hf => .cons (Dp.reads I _ _ _ (dp_of _ _ (hf _ List.mem_cons_self) q) r) (each_reads I t u fun d hd => hf d (List.mem_cons_of_mem _ hd))
theorem depths_mem : ∀ {ds : List D} {d : D}, d ∈ ds → depth d ≤ depths ds
  | e :: ds, d, h => by
    rw [depths]
    rcases List.mem_cons.mp h with rfl | h
    · omega
    · have := depths_mem h; omega
theorem srt_at {prog : Program} {w : World} {A : Around} {s2 : Shared} {us : List Value} {ds : List D} (h1 : allAlk ds = true) (h2 : srtOk ds = true) (h3 : depths ds ≤ 8) (hu : A.units + 20 < cLine) (er : PySem.W.EachIs (fun v d => ∃ as, Reads s2.heap v (toPy d) as) us ds) : SortsAt prog w A s2 (dataKind s2.heap (ds.map toPy)) us := by
  have hal : AllAlike (ds.map toPy) := by
    intro d hd d' hd'
    obtain ⟨b, hb, rfl⟩ := List.mem_map.mp hd
    obtain ⟨b', hb', rfl⟩ := List.mem_map.mp hd'
    exact alk_py b b' (allAlk_mem h1 b hb b' hb')
  have er' := PySem.W.each_map (R := fun v d => ∃ as, Reads s2.heap v d as) toPy er
  have hdep : ∀ d, d ∈ ds.map toPy → A.units + d.depth < cLine := fun d hd => by
    obtain ⟨b, hb, rfl⟩ := List.mem_map.mp hd
    rw [depth_py b (alk_flat b (allAlk_mem h1 b hb b hb))]
    have := depths_mem hb
    omega
  unfold srtOk at h2
  rw [Bool.or_eq_true, Bool.or_eq_true] at h2
  rcases h2 with (h2 | h2) | h2
  · refine SortsAt.data er' hal (.inr fun d hd => ?_) hdep
    obtain ⟨b, hb, rfl⟩ := List.mem_map.mp hd
    have := List.all_eq_true.mp h2 b hb
    cases b <;> first | (simp [isInt] at this; done) | (rw [toPy]; exact ⟨(fun z => nomatch z), (fun _ z => nomatch z)⟩)
  · refine SortsAt.data er' hal (.inl fun d hd => ?_) hdep
    obtain ⟨b, hb, rfl⟩ := List.mem_map.mp hd
    have := List.all_eq_true.mp h2 b hb
    cases b with
    | tup es =>
      cases es with
      | nil => simp [fullT] at this
      | cons e es => rw [toPy, toPys]; exact ⟨_, _, rfl⟩
    | _ => simp [fullT] at this
  · refine SortsAt.empties er' (fun d hd => ?_) (by omega)
    obtain ⟨b, hb, rfl⟩ := List.mem_map.mp hd
    have := List.all_eq_true.mp h2 b hb
    cases b with
    | tup es =>
      cases es with
      | nil => rw [toPy, toPys]
      | cons e es => simp [emptyT] at this
    | _ => simp [emptyT] at this
/-- what a value's items are -/
def Coll (X : Cx) (s : Shared) (v : Value) (us : List Value) : Prop := ∀ (E' : Value → Shared → Prop) (R : List Value → Shared → Prop), (∀ h' tk, s.heap.objs.size ≤ h'.objs.size → (∀ b o, s.heap.get? b = some o → h'.get? b = some o) → R us { s with heap := h', toks := tk }) → wpAny (model X.prog X.w) X.A.in1 (collect v) R E' s
theorem coll_of (ok : OkX Z X) {pins : List (Addr × Obj)} {σ : L2.St} {H : Hp} {s : Shared} {N : List Addr} {v : V} {u : Value} {d : D} {ds : List D} (I : L2.Inv X pins σ H s) (ru : RelV v u) (r : Rep Z (avoid H N) v d) (hs : seq? d = some ds) (hl : ds.length ≤ 1000) :
    ∃ xs us, Vals xs us ∧ RepL Z (avoid H N) xs ds ∧ Coll X s u us := by
  unfold seq? at hs
  split at hs
  · cases hs
    obtain ⟨a, xs, rfl, ea, rr⟩ := r.tup_inv
    cases ru
    obtain ⟨its, rv, p, hz⟩ := I.tuple (SqT.of (K := X.K) (avoid_le _ _ ea))
    refine ⟨xs, its, rv, rr, fun E' R h => PySem.W.collect_tup (show s.heap.IsTuple a its.toArray from p) (h _ s.toks ?_ fun b o e => ?_) (by rw [← rv.length]; exact hz)⟩
    · rw [Heap.size_update, Heap.size_push]; exact Nat.le_succ _
    · have hlt := Heap.lt_size e
      rw [Heap.get?_update_ne _ _ _ _ (Nat.ne_of_lt hlt)]
      exact Heap.get?_push_of_some _ e
  · cases hs
    obtain ⟨a, xs, rfl, ea, rr⟩ := r.lst_inv
    cases ru
    obtain ⟨its, rv, p, hz⟩ := I.list (SqL.of (K := X.K) (avoid_le _ _ ea))
    refine ⟨xs, its, rv, rr, fun E' R h => PyProof.Rows.collect_list p.isList (h _ s.toks ?_ fun b o e => ?_) (by rw [← rv.length]; exact hz)⟩
    · rw [Heap.size_update, Heap.size_push]; exact Nat.le_succ _
    · have hlt := Heap.lt_size e
      rw [Heap.get?_update_ne _ _ _ _ (Nat.ne_of_lt hlt)]
      exact Heap.get?_push_of_some _ e
  · cases hs
    obtain ⟨a, ho, rfl, ea, rr⟩ := r.dic_inv
    cases ru
    obtain ⟨xs, hS, ⟨o, es, ep, h1, h2, h3, h4, h5, h6⟩, rd, hz, _⟩ := dic_of I.hok avoid_le ok.P ok.w (avoid_le _ _ ea) rr
    have l1 : es.size = xs.length := size_of_entries h4
    refine ⟨(xs.map fun x => x.2.1).map V.ref, (xs.map fun x => x.2.1).map Value.ref, vals_refs' _, by rw [List.map_map]; exact rd.keys, fun E' R h => ?_⟩
    refine PySem.W.kdu_collect2 (kdl_raw hS h2 h3) (show X.A.in1.handled = none from I.ok.hd ok.calm) h1 (sizeM (by rw [l1, rd.length]; exact hz)) fun h' tk acc hle hk it => ?_
    rw [keys_items h4 it]
    exact h h' tk hle hk
  · cases hs
theorem c_sorted (ok : OkX Z X) (hu : X.A.units + 64 < cLine) : CallR X (.builtin "sorted") (rDs Z (a1 opSorted)) := by
  intro pins s σ H xs us Q I rx ⟨N, ds, d', tk, r1, hf, q⟩
  obtain ⟨d, rfl, hf2⟩ := a1_inv hf
  clear hf
  obtain ⟨v, rfl, r⟩ := r1.one
  obtain ⟨u, rfl, ru⟩ := rx.one
  unfold opSorted at hf2
  cases hs : seq? d with
  | none => rw [hs] at hf2; cases hf2
  | some ds =>
    rw [hs] at hf2
    have hf2 : (if allAlk ds ∧ srtOk ds ∧ ds.length ≤ 1000 ∧ depths ds ≤ 8 then some (D.lst (sortD ds)) else none) = some d' := hf2
    by_cases hc : allAlk ds ∧ srtOk ds ∧ ds.length ≤ 1000 ∧ depths ds ≤ 8
    · rw [if_pos hc] at hf2
      cases hf2
      obtain ⟨g1, g2, g3, g4⟩ := hc
      obtain ⟨ys, vs, rv, rr, cl⟩ := coll_of ok I ru r hs g3
      have er := each_reads I rv rr fun d hd => alk_flat d (allAlk_mem g1 d hd d hd)
      have hlen : vs.length ≤ sizeLine := by rw [← rv.length, rr.length]; exact Nat.le_trans g3 line1000
      have hal : AllAlike (ds.map toPy) := by
        intro d hd d' hd'
        obtain ⟨b, hb, rfl⟩ := List.mem_map.mp hd
        obtain ⟨b', hb', rfl⟩ := List.mem_map.mp hd'
        exact alk_py b b' (allAlk_mem g1 b hb b' hb')
      refine PySem.W.sorted_col (κ := fun h => dataKind h (ds.map toPy)) cl (fun s2 hk => srt_at g1 g2 g4 (by show X.A.units + 1 + 1 + 20 < cLine; omega) (er.mono fun _ _ ⟨as, r⟩ => ⟨as, PyProof.Rows.Reads.keeps hk r⟩)) hlen fun D h2 h'' tk' e hle hk2 hk he => ?_
      have eo := PySem.W.sortVals_data (h' := h2) (R := RV Z (avoid H N)) false (each_of rv rr) (er.mono fun _ _ ⟨as, r⟩ => ⟨as, PyProof.Rows.Reads.keeps hk2 r⟩) hal
      rw [sortD_py g1] at eo
      obtain ⟨zs, k1, k2⟩ := of_each eo
      have hfree := I.hok.fresh hle
      refine ⟨.ref D, upd H D (.lst zs), I.laid (t' := tk') hk hle ⟨?_, _, e, k1, he⟩, rfl, q _ _ (same_upd hfree) (rep_new (tk.no hfree) hfree (.lst k2))⟩
      rw [k2.length]
      unfold sortD
      rw [List.length_mergeSort]
      exact Nat.le_trans g3 line1000
    · rw [if_neg hc] at hf2; cases hf2
end
end Pd
end
section
set_option Elab.async false
set_option linter.all false
set_option maxRecDepth 100000
set_option maxHeartbeats 4000000
/-! PdWalk: dicts walked, dict(pairs). -/
namespace Pd
open PySem PySem.Spec PyProof.Rows L2

/-- the keys (at as) of the dict at d whose object is o -/
def Itraw (d : Addr) (o : Obj) (as : List Addr) : It :=
  ⟨fun i H => H d = some (pinO d o) ∧ i < as.length, fun i H x H' => H' = H ∧ ∃ q, as[i]? = some q ∧ x = .ref q, fun i H => H d = some (pinO d o) ∧ as.length ≤ i⟩
section
variable {P : Program} {w : World} {K : PySem.W.Frag} {tg : Expr} {d : Addr} {o : Obj} {es : Array DictEntry} {ep : Nat}
theorem pin_get {X : Cx} {pins : List (Addr × Obj)} {σ : L2.St} {H : Hp} {s : Shared} (I : L2.Inv X pins σ H s) (h : H d = some (pinO d o)) : s.heap.get? d = some o := (show ObjOk X.prog X.w H s.heap d (pinO d o) from I.hok d _ h).1
theorem turn_raw {as : List Addr} (it : Addr) (hx : o.ExactDict) (hod : o.data = .dict es ep) (hl : es.size = as.length) (hk : ∀ (i : Nat) (q : Addr), as[i]? = some q → ∃ en : DictEntry, es[i]? = some en ∧ en.key = .ref q) :
    Turn P w K tg (Itraw d o as) [it] it (fun i h => h.IsKeyIter it d i as.length ep) where
  mem := by simp
  obj := fun i h st b hb => by
    have e : b = it := by simpa using hb
    subst e
    obtain ⟨oi, e, c, dd⟩ := st
    exact ⟨oi, e, fun v z => by rw [dd] at z; cases z⟩
  keep := fun i h h' st k => st.at fun oi e => k it (by simp) oi e
  item := by
    intro X hP hw hK hc i pins s σ H E I hf st hg
    subst hP hw hK
    obtain ⟨hd, hi⟩ := hg
    obtain ⟨f0, f1, f2, f3, f4, f5⟩ := hf it (by simp)
    have hgd := pin_get I hd
    obtain ⟨q, hq⟩ : ∃ q, as[i]? = some q := ⟨as[i], List.getElem?_eq_getElem hi⟩
    obtain ⟨en, hen, hkey⟩ := hk i q hq
    refine next_key_item st hgd hod hl hen fun h' st' sb => ?_
    have I1 : L2.Inv X pins σ H { s with heap := h' } := I.turned (t' := s.toks) (fun b ob hb e => (sb.2 b hb).trans e) f0 f1 f3 f4 f5
    obtain ⟨oi, e, c, dd⟩ := id st'
    exact ⟨en.key, rfl, go_of (s := { s with heap := h' }) e c dd (by decide) ⟨.ref q, H, I1, hkey, ⟨rfl, q, hq, rfl⟩, st', fun b hb => (hf b hb).1⟩⟩
  done := by
    intro X hP hw hK hc i pins s σ H E I hf st hg
    subst hP hw hK
    obtain ⟨hd, hi⟩ := hg
    obtain ⟨f0, f1, f2, f3, f4, f5⟩ := hf it (by simp)
    have hgd := pin_get I hd
    exact next_key_end (I.ok.hd hc) st hgd hod hl hi fun h' eb => ⟨rfl, I.turned (t' := s.toks) (fun b ob hb e => eb b ob hb e) f0 f1 f3 f4 f5⟩
  self := fun A i s Q E st h => by
    refine wpAny_pyIter_slot st.typeIs F.slot_dict_keyiterator_iter (wpAny_call_entry F.slot_dict_keyiterator_iter st.typeIs F.entry_dict_keyiterator_iter ?_ (F.args_dict_keyiterator_iter_1 _))
    show wpAny _ _ (PySem.ret (.ref it)) _ _ s
    exact wpAny_pure ⟨_, rfl, "dict_keyiterator", _, st.typeIs, F.slot_dict_keyiterator_next.lookup, h⟩
end
section
variable {Z : Wd} {X : Cx} {e a : Expr} {tg : Expr} {pos p : Pos}
theorem yl_raw {F : Hp} {d : Addr} {o : Obj} {xs : List (NestedKey × Addr × Value)} {kvs : List (D × D)} (hd : F d = some (pinO d o)) (rd : RepD Z F xs kvs) : Yl Z (Itraw d o (xs.map fun x => x.2.1)) F (kvs.map (·.1)) := fun H N tk sm => by
  have hl := rd.length
  have hd2 : H d = some (pinO d o) := avoid_le _ _ (sm _ _ hd)
  refine ⟨fun i dd hdd => ?_, hd2, by rw [List.length_map, List.length_map, hl]; exact Nat.le_refl _⟩
  obtain ⟨v, hv, rv⟩ := rd.keys.get hdd
  rw [List.getElem?_map] at hv
  cases hx : xs[i]? with
  | none => rw [hx] at hv; cases hv
  | some x =>
    rw [hx] at hv
    cases hv
    refine ⟨⟨hd2, ?_⟩, fun y H' yl => ?_⟩
    · rw [List.length_map]; exact (List.getElem?_eq_some_iff.mp hx).1
    · obtain ⟨rfl, q, hq, rfl⟩ := yl
      rw [List.getElem?_map, hx] at hq
      cases hq
      exact ⟨Same.refl _, rv.mono sm⟩
theorem di_dic {ma : E} (ok : OkX Z X) (he : PE X e (tD Z ma)) : PI X tg e (tDI Z (iD ma)) := by
  refine ⟨fun pins s σ H R I ⟨C, L, ρ, ds, ρ', s0, hm, q⟩ => ?_⟩
  obtain ⟨x, ρ1, h1, hm1⟩ := bnd_inv hm
  cases x with
  | dic kvs =>
    cases hm1
    refine thn (he.run pins s σ H (fun v H1 => ∃ (d : Addr) (o : Obj) (es : Array DictEntry) (ep : Nat) (xs : List (NestedKey × Addr × Value)), v = .ref d ∧ H1 d = some (pinO d o) ∧ (d == sysModules) = false ∧ o.ExactDict ∧ o.data = .dict es ep ∧ es.toList = xs.map (entryOfKey (nestedKind Z.P Z.w)) ∧ R (Itraw d o (xs.map fun x => x.2.1)) H1) I ⟨C, L, ρ, _, _, s0, h1, fun v H1 L1 sm s1 r => ?_⟩) fun u s1 ⟨x, H1, I1, rx, d, o, es, ep, xs, ex, hd, hS, hx, hdt, he', hR⟩ => ?_
    · obtain ⟨l, ho, rfl, e1, q1⟩ := r.dic_inv
      cases q1 with
      | @dic _ o xs _ d1 hS rd hl =>
        obtain ⟨hx, ⟨es, ep, hdt, he'⟩, _⟩ := d1
        exact ⟨l, o, es, ep, xs, rfl, avoid_le _ _ e1, hS, hx, hdt, he', q _ H1 L1 sm s1 (yl_raw e1 rd)⟩
    · subst ex
      obtain rfl : u = Value.ref d := rx
      have hl : es.size = (xs.map fun x => x.2.1).length := by rw [List.length_map]; exact size_of_entries he'
      refine iter_keys hS (pin_get I1 hd) hx hdt (pi_one (tk := s1.toks) I1 _ (turn_raw _ hx hdt hl fun i q hq => ?_) ⟨_, Heap.get?_push_size _ rfl, rfl, ?_⟩ hR)
      · rw [List.getElem?_map] at hq
        cases hxi : xs[i]? with
        | none => rw [hxi] at hq; cases hq
        | some x =>
          rw [hxi] at hq
          cases hq
          exact ⟨entryOfKey (nestedKind Z.P Z.w) x, by rw [entry_at he', hxi]; rfl, rfl⟩
      · rw [hl]; rfl
  | _ => cases hm1

/-! ### dict(pairs) -/
def keysOf (d : D) : List D := match d with
  | .dic kvs => kvs.map (·.1)
  | _ => []
theorem pair_inv {d : D} {p : D × D} (h : pair? d = some p) : d = .tup [p.1, p.2] ∧ kOk p.1 = true ∧ depth p.1 ≤ 8 := by
  unfold pair? at h
  split at h
  · split at h
    · rename_i hk; cases h; exact ⟨rfl, hk.1, hk.2⟩
    · cases h
  · cases h
/-- the pairs as they stand: (pair's address, key's address, value) -/
theorem pairs_at {pins : List (Addr × Obj)} {σ : L2.St} {H F : Hp} {s : Shared} (I : L2.Inv X pins σ H s) (ok : OkX Z X) (sm : Same F H) : ∀ {ds : List D} {ps : List (D × D)} {xs : List V} {us : List Value}, ds.mapM pair? = some ps → RepL Z F xs ds → Vals xs us →
    ∃ ts : List (Addr × NestedKey × Addr × Value), us = ts.map (fun t => Value.ref t.1) ∧ RepD Z F (ts.map (·.2)) ps ∧ ∀ t ∈ ts, s.heap.IsTuple t.1 #[.ref t.2.2.1, t.2.2.2]
  | [], ps, _, _, e, r, rv => by
    cases e
    cases r
    cases rv
    exact ⟨[], rfl, .nil, fun _ h => nomatch h⟩
  | d :: ds, ps, _, _, e, r, rv => by
    rw [List.mapM_cons] at e
    cases e1 : pair? d with
    | none => rw [e1] at e; cases e
    | some p =>
      rw [e1] at e
      cases e2 : ds.mapM pair? with
      | none => rw [e2] at e; cases e
      | some ps' =>
        rw [e2] at e
        cases e
        cases r with
        | cons r1 r2 =>
          cases rv with
          | cons v1 v2 =>
            obtain ⟨ts, h1, h2, h3⟩ := pairs_at I ok sm e2 r2 v2
            obtain ⟨rfl, hk, hd⟩ := pair_inv e1
            obtain ⟨T, zs, rfl, eT, rz⟩ := r1.tup_inv
            cases v1
            obtain ⟨kv, vv, rfl, rk, rvv⟩ := rz.two
            obtain ⟨ak, _, rfl, _, _⟩ : ∃ ak xs, kv = .ref ak ∧ F ak = some (.tup xs) ∧ True := by
              obtain ⟨kd, vd⟩ := p
              cases kd <;> first | (simp [kOk] at hk; done) | (obtain ⟨a, xs, rfl, ea, _⟩ := rk.tup_inv; exact ⟨a, xs, rfl, ea, trivial⟩)
            obtain ⟨_, its, rvs, o, g1, g2, n, g3⟩ := (show ObjOk X.prog X.w H s.heap T (.tup [.ref ak, vv]) from I.hok T _ (sm _ _ eT))
            obtain ⟨u1, u2, rfl, q1, q2⟩ := vals2 rvs
            cases q1
            refine ⟨(T, toKey p.1, ak, u2) :: ts, by rw [List.map_cons, ← h1], .cons rfl hk hd rk q2 rvv h2, fun t ht => ?_⟩
            rcases List.mem_cons.mp ht with rfl | ht
            · exact ⟨o, g1, g2, n, g3⟩
            · exact h3 t ht
theorem fold_put {F : Hp} : ∀ {xs ys : List (NestedKey × Addr × Value)} {ps kvs : List (D × D)}, RepD Z F xs ps → RepD Z F ys kvs → RepD Z F (storedAllH ys xs) (ps.foldl (fun m p => dput m p.1 p.2) kvs)
  | _, _, _, _, .nil, r => r
  | _, _, _, _, .cons e h1 h2 rk rv rw' rs, r => by
    subst e
    unfold storedAllH
    rw [List.foldl_cons, List.foldl_cons]
    exact fold_put rs (r.put h1 h2 rk rv rw')
theorem foldput_length : ∀ {ps kvs : List (D × D)}, (ps.foldl (fun m p => dput m p.1 p.2) kvs).length ≤ kvs.length + ps.length
  | [], kvs => Nat.le_refl _
  | p :: ps, kvs => by
    rw [List.foldl_cons, List.length_cons]
    have h1 := foldput_length (ps := ps) (kvs := dput kvs p.1 p.2)
    have h2 := dput_length (kvs := kvs) (k := p.1) (v := p.2)
    omega
theorem mapM_length {α β : Type} {f : α → Option β} : ∀ {l : List α} {m : List β}, l.mapM f = some m → m.length = l.length
  | [], m, h => by cases h; rfl
  | a :: l, m, h => by
    rw [List.mapM_cons] at h
    cases e1 : f a with
    | none => rw [e1] at h; cases h
    | some b =>
      rw [e1] at h
      cases e2 : l.mapM f with
      | none => rw [e2] at h; cases h
      | some bs =>
        rw [e2] at h
        cases h
        rw [List.length_cons, List.length_cons, mapM_length e2]
theorem n_dict (ok : OkX Z X) (hu : X.A.units + 64 < cLine) : CallR X (.type "dict") (rNs Z (a1 opDict)) := by
  intro pins s σ H xs us Q I rx ⟨N, ds, d', tk, r1, hf, q⟩
  obtain ⟨d, rfl, hf2⟩ := a1_inv hf
  clear hf
  obtain ⟨v, rfl, r⟩ := r1.one
  obtain ⟨u, rfl, ru⟩ := rx.one
  cases d with
  | lst ds =>
    have hf2 : (if ds.length < 1000000 then (ds.mapM pair?).map (fun ps => D.dic (ps.foldl (fun m p => dput m p.1 p.2) [])) else none) = some d' := hf2
    by_cases hl : ds.length < 1000000
    · rw [if_pos hl] at hf2
      obtain ⟨ps, e1, rfl⟩ := map_some hf2
      obtain ⟨a, ys, rfl, ea, rr⟩ := r.lst_inv
      cases ru
      obtain ⟨its, rv, pl, hz⟩ := I.list (SqL.of (K := X.K) (avoid_le _ _ ea))
      obtain ⟨ts, g1, g2, g3⟩ := pairs_at I ok avoid_le e1 rr rv
      subst g1
      have hlen : ts.length = ds.length := by rw [← rr.length, rv.length, List.length_map]
      have pa := PairArg.list (prog := X.prog) (w := X.w) a (ts.map fun t => Value.ref t.1).toArray (fun j => (ts[j]?.map (·.1)).getD 0) (ts.map fun t => (Value.ref t.2.2.1, t.2.2.2))
      refine call_dict_pairsH (knd := nestedKind X.prog X.w) (ps := ts.map (·.2)) pa (I.ok.hd ok.calm) (by show X.A.units + 1 + 1 + 8 < cLine; omega) ⟨?_, ?_, ?_⟩ ⟨by rw [List.length_map, List.length_map], fun i key v hr => ?_⟩ (fun h' hk x hx => ?_) (by rw [List.length_map, hlen]; exact sizeM (Nat.le_of_lt hl)) fun h' tk' hd' hk => ?_
      · obtain ⟨o, n, h1, h2, h3, h4⟩ := pl
        exact ⟨o, n, h1, h2, h3, h4⟩
      · simp
      · intro j k v hj
        rw [List.getElem?_map] at hj
        cases ht : ts[j]? with
        | none => rw [ht] at hj; cases hj
        | some t =>
          rw [ht] at hj
          cases hj
          refine ⟨by simp [ht], ?_⟩
          simp only [ht, Option.map_some, Option.getD_some]
          exact .inl (g3 t (List.mem_of_getElem? ht))
      · have hr : (ts.map fun t => (Value.ref t.2.2.1, t.2.2.2))[i]? = some (key, v) := hr
        rw [List.getElem?_map] at hr
        cases ht : ts[i]? with
        | none => rw [ht] at hr; cases hr
        | some t =>
          rw [ht] at hr
          cases hr
          exact ⟨t.2.1, t.2.2.1, by rw [List.getElem?_map, ht]; rfl, rfl⟩
      · have hi := g2.is (P := X.prog) (w := X.w) I.hok avoid_le x hx
        refine ⟨NestedIs.at (fun b ob vs n hb hc => hk b ob (Nat.ne_of_lt (Heap.lt_size hb)) (fun z => nomatch z) hb) _ _ hi.1, hi.2⟩
      · obtain ⟨o, es, ep, h1, h2, h3, h4, _, h5⟩ := hd'
        have hfree := I.hok.fresh (Nat.le_refl s.heap.objs.size)
        refine ⟨.ref s.heap.objs.size, upd H s.heap.objs.size (pinO s.heap.objs.size o), I.laid (t' := tk') (fun b ob hb => hk b ob (fun z => nomatch z) hb) (Nat.le_refl _) (pin_ok h1), rfl, q _ _ hfree ?_⟩
        refine .dic ⟨h2, ⟨es, ep, h3, ?_⟩, h5⟩ (beq_eq_false_iff_ne.mpr (Nat.ne_of_gt (inv_big I))) (fold_put g2 .nil) ?_
        · rw [h4, ok.P, ok.w]
        · have := foldput_length (ps := ps) (kvs := [])
          rw [mapM_length e1, List.length_nil] at this
          omega
    · rw [if_neg hl] at hf2; cases hf2
  | _ => cases hf2
theorem c_dict (ok : OkX Z X) (hu : X.A.units + 64 < cLine) : CallR X (.type "dict") (rDs Z (a1 opDict)) := callR_of_n (n_dict ok hu)
end
end Pd
end
section
set_option Elab.async false
set_option linter.all false
set_option maxRecDepth 100000
set_option maxHeartbeats 4000000
/-! PdRat: the operators of the own numbers. -/
namespace PySem.W
open PySem PySem.Calls PyProof.Rows
section
variable {prog : Program} {w : World} {M : Model} {A : Around} {E : Value → Shared → Prop} {s : Shared} {K : Frag} {x C f : Addr} {ox : Obj} {od : Option Obj} {b tb : Value}
theorem ifBound_KB {name : Str} {id : String} {args : List Value} {Q : Option Value → Shared → Prop} (X : K.In s.heap) (I : InstAt s.heap x ox C od) (hs : findIn K (.ref C) name = some (some (.builtin id)))
    (hb : ∀ self, bindSpecial (.builtin id) self = pure (.builtin id, [self])) (h : wpAny M A (call (.builtin id) (.ref x :: args)) (fun v => Q (some v)) E s) : wpAny M A (callSpecialIfBound? (.ref x) name args) Q E s := by
  simp only [callSpecialIfBound?, bindSpecialIfBound?]
  refine wpAny_holding (wpAny_bind (wpAny_bind (wpAny_bind (I.type.here ((looks_findIn X hs).here ?_)))))
  refine wpAny_bind (wpAny_askSetting (wpAny_ite ?_))
  have fin : wpAny M A (call (.builtin id) ([.ref x] ++ args) >>= fun v => pure (some v)) Q E s := wpAny_bind (wpAny_mono h (fun v s' h' => wpAny_pure h') fun _ _ h' => h')
  split
  · exact wpAny_bind ((Looks.of_pure (hb _)).here (wpAny_pure (by exact fin)))
  · exact wpAny_tryCatch (wpAny_bind ((Looks.of_pure (hb _)).here (wpAny_pure (by exact fin))))
theorem objNe_K {Q : Fin → Shared → Prop} (hu : A.units < cLine) (X : K.In s.heap) (I : InstAt s.heap x ox C od) (hs : findIn K (.ref C) "__eq__" = some (some (.ref f))) (hf : isFn K (.ref f) = true)
    (hcall : wpAny (model prog w) A (call (.ref f) [.ref x, b]) (fun v s' => ∃ c, v = .bool c ∧ Q (.done (.ret (.bool (!c)))) s') E s) :
    wpAny (model prog w) A (Builtin.«object.__ne__» ⟨[.ref x, b], []⟩) Q E s := by
  obtain ⟨h, g, d, t, os⟩ := s
  unfold Builtin.«object.__ne__»
  repeat (first
    | with_reducible refine wpAny_cRoomFor hu ?_
    | (refine wpAny_bind (m := callSpecialIfBound? (.ref x) (Str.ofString "__eq__") [b])
        (ifBound_K X I hs hf (wpAny_mono hcall (fun r s' hr => by
          obtain ⟨c, rfl, hq⟩ := hr
          repeat (first | exact hq | exact wpAny_pure hq | exact wpAny_truthy_bool hq | (refine wpAny_bind (m := truthy (.bool _)) (wpAny_truthy_bool ?_)) | wp_step)) fun _ _ e => e)))
    | wp_step)
theorem ne_own {Q : Value → Shared → Prop} (hu : A.units + 1 < cLine) (X : K.In s.heap) (I : InstAt s.heap x ox C od) (hb : Looks (model prog w) s.heap (typeOf b) tb) (hn : notFirst K C tb = true) (hne : findIn K (.ref C) "__ne__" = some (some (.builtin "object.__ne__")))
    (hm : mroIn K C (.type "object") = some true) (hs : findIn K (.ref C) "__eq__" = some (some (.ref f))) (hf : isFn K (.ref f) = true)
    (hcall : wpAny (model prog w) A.in1 (call (.ref f) [.ref x, b]) (fun v s' => ∃ c, v = .bool c ∧ Q (.bool (!c)) s') E s) : wpAny (model prog w) A (compareOp .NotEq (.ref x) b) Q E s := by
  have one : wpAny (model prog w) A (tryCompare (.ref x) (cmpInfo .NotEq).2.1 b) (fun r s' => ∃ v, r = some v ∧ Q v s') E s := by
    unfold tryCompare
    refine wpAny_bind (ifBound_KB (id := "object.__ne__") X I hne PySem.F.slot_object_ne.bind ?_)
    refine wpAny_call (codeAny_call_builtin PySem.F.slot_object_ne.plain PySem.F.entry_object_ne (check_slot (i := "object.__ne__") (owner := "object") (n := "__ne__") (by decide +kernel) (by decide +kernel) (I.type.andThen (looks_mroIn X hm)) (PySem.F.args_object_ne_2 _ _) ?_))
    refine objNe_K (A := A.in1) (by show A.units + 1 < cLine; exact hu) X I hs hf (wpAny_mono hcall (fun v s' hv => ?_) fun _ _ e => e)
    obtain ⟨c, rfl, hq⟩ := hv
    first | exact ⟨c, rfl, wpAny_pure ⟨_, rfl, hq⟩⟩ | exact ⟨c, rfl, wpAny_pure (wpAny_pure ⟨_, rfl, hq⟩)⟩ | exact ⟨c, rfl, ⟨_, rfl, hq⟩⟩
  unfold compareOp
  unfold richCompare
  simp only [oneThing_ref]
  refine wpAny_holding (wpAny_bind (wpAny_cRoomFor (Nat.lt_of_succ_lt hu) ?_))
  refine wpAny_bind (I.type.here (wpAny_bind (hb.here ?_)))
  split
  · rename_i q
    have e : subIn K tb (.ref C) = some false := by
      rcases Bool.or_eq_true_iff.mp hn with e | e
      · rw [beq_iff_eq.mp e] at q; simp at q
      · exact beq_iff_eq.mp e
    refine wpAny_bind ((looks_subIn X e).here ?_)
    simp only [Bool.false_eq_true, if_false]
    refine wpAny_bind (wpAny_mono one (fun r s' z => ?_) fun _ _ e => e)
    obtain ⟨v, rfl, hq⟩ := z
    exact wpAny_pure hq
  · refine wpAny_bind (wpAny_pure ?_)
    simp only [Bool.false_eq_true, if_false]
    refine wpAny_bind (wpAny_mono one (fun r s' z => ?_) fun _ _ e => e)
    obtain ⟨v, rfl, hq⟩ := z
    exact wpAny_pure hq
end
end PySem.W
end
section
set_option Elab.async false
set_option linter.all false
set_option maxRecDepth 100000
set_option maxHeartbeats 4000000
/-! PdRat2: the operators of the own numbers, by data. -/
namespace Pd
open PySem PySem.Spec PyProof.Rows L2
/-- an operator's method -/
structure GR (Z : Wd) (op : Operator) (k : Nat) (g : List D → Option D) : Prop where
  ex : ∃ (f : Addr) (fd : FuncData) (ps : List Str) (n : Nat) (rc fo ro : Option Value), PySem.W.findIn Z.K (.ref (Z.cA .rat)) (PySem.dunder op.info.2) = some (some (.ref f)) ∧ PySem.W.isFn Z.K (.ref f) = true ∧ PySem.W.findIn Z.K (.ref (Z.cA .rat)) (PySem.dunderR op.info.2) = some rc ∧ (rc = none ∨ ∃ g : Addr, rc = some (.ref g)) ∧
    PySem.W.findIn Z.K (.type "int") (PySem.dunder op.info.2) = some fo ∧ PySem.W.findIn Z.K (.type "int") (PySem.dunderR op.info.2) = some ro ∧ Binds Z.K fd ps [] ∧ FnOk Z.P Z.w Z.K Z.mg Z.base CX0 k f fd ps (spF Z n g) ∧ ∀ ds r, g ds = some r → ds.length = n
/-- a special method by its name -/
structure GS (Z : Wd) (x : Str) (k : Nat) (g : List D → Option D) : Prop where
  ex : ∃ (f : Addr) (fd : FuncData) (ps : List Str) (n : Nat), PySem.W.findIn Z.K (.ref (Z.cA .rat)) x = some (some (.ref f)) ∧ PySem.W.isFn Z.K (.ref f) = true ∧ Binds Z.K fd ps [] ∧ FnOk Z.P Z.w Z.K Z.mg Z.base CX0 k f fd ps (spF Z n g) ∧ ∀ ds r, g ds = some r → ds.length = n
structure RatF (Z : Wd) : Prop where
  sf : PySem.W.selfFirst Z.K (Z.cA .rat) = true
  sub : PySem.W.subIn Z.K (.type "int") (.ref (Z.cA .rat)) = some false
  nf : PySem.W.notFirst Z.K (Z.cA .rat) (.ref (Z.cA .rat)) = true
  ne : PySem.W.findIn Z.K (.ref (Z.cA .rat)) "__ne__" = some (some (.builtin "object.__ne__"))
section
variable {Z : Wd} {X : Cx} {k : Nat}
theorem cmpBack_of {pins : List (Addr × Obj)} {σ : L2.St} {Q : VK} {v : Value} {s' : Shared} (h : EP X pins σ Q v s') : PySem.W.CmpBack (EP X pins σ Q) v s' := by
  obtain ⟨x, H', I', rx, q⟩ := id h
  cases v <;> first | exact h | skip
  exfalso
  cases x <;> first | (obtain ⟨_, z⟩ := (rx : ∃ t, _ = _); cases z; done) | (cases (show Value.notImplemented = _ from rx); done)
theorem spF_go {g : List D → Option D} {n : Nat} {vs : List V} {H : Hp} {Q : VK} (h5 : ∀ ds r, g ds = some r → ds.length = n) (h : rDs Z g vs H Q) : spF Z n g vs H Q E0 := by
  obtain ⟨N, ds, d', tk, r, hf, q⟩ := h
  exact ⟨by rw [r.length]; exact h5 _ _ hf, N, ds, d', tk, r, hf, q⟩
theorem o_ratBin {op : Operator} {g : List D → Option D} {f2 : D → D → Option D} (ok : OkX Z X) (cf : RatF Z) (G : GR Z op k g) (hr : Room k X.A) (hop : ∀ d e r, f2 d e = some r → (∃ fs, d = .ins .rat fs) ∧ ((∃ fs, e = .ins .rat fs) ∨ ∃ i, e = .int i) ∧ g [d, e] = some r) : OpR X (binaryOp op) (rD2 Z f2) := by
  intro pins s σ H x y v u Q I rx ry ⟨N, d, e, d', tk, r1, r2, hf, q⟩
  obtain ⟨f, fd, ps, n, rc, fo, ro, g1, g2, g3, g4, g5, g6, g7, g8, g9⟩ := G.ex
  obtain ⟨⟨fs, rfl⟩, he, hg⟩ := hop _ _ _ hf
  obtain ⟨a, dx, fs', rfl, ea, _⟩ := r1.ins_inv
  cases rx
  obtain ⟨mA, O, _⟩ := ins_get I.hok (avoid_le _ _ ea)
  obtain ⟨od, J, _⟩ := O.look
  obtain ⟨m, F⟩ := I.fr
  have call : wpAny (model X.prog X.w) X.A (call (.ref f) [.ref a, u]) (PySem.W.CmpBack (EP X pins σ Q)) X.xe s :=
    wpAny_mono (run_fn (us := [.ref a, u]) (vs := [.ref a, y]) (FnOk.atX ok g8) hr (by rw [ok.K]; exact g7) .nil pass0 I (.cons rfl (.cons ry .nil)) (by
      show spF Z n g ([.ref a, y] ++ []) H Q E0
      rw [List.append_nil]
      exact spF_go g9 ⟨N, _, d', tk, .cons r1 (.cons r2 .nil), hg, q⟩)) (fun v s' h => cmpBack_of h) fun _ _ h => h
  rcases he with ⟨fs2, rfl⟩ | ⟨i, rfl⟩
  · obtain ⟨b, dx2, fs2', rfl, eb, _⟩ := r2.ins_inv
    cases ry
    obtain ⟨mA2, O2, _⟩ := ins_get I.hok (avoid_le _ _ eb)
    obtain ⟨od2, J2, _⟩ := O2.look
    exact PySem.W.binop_K F I.ok.mod.kin J J2.type (by rw [ok.K]; exact cf.sf) (by rw [ok.K]; exact g1) (by rw [ok.K]; exact g2) call
  · rw [r2.int_inv] at ry
    obtain ⟨t, rfl⟩ := ry
    exact PySem.W.ksp_binT (T := "int") F I.ok.mod.kin J rfl (by rw [ok.K]; exact cf.sf) (by rw [ok.K]; exact g1) (by rw [ok.K]; exact g2) (by rw [ok.K]; exact g3) g4 (by rw [ok.K]; exact g5) (by rw [ok.K]; exact g6) (by rw [ok.K]; exact cf.sub) call
theorem addR_inv (d e r : D) (h : opAddR d e = some r) : (∃ fs, d = .ins .rat fs) ∧ ((∃ fs, e = .ins .rat fs) ∨ ∃ i, e = .int i) ∧ g_Ratio_add [d, e] = some r := by
  unfold opAddR at h
  split at h
  · exact ⟨⟨_, rfl⟩, .inl ⟨_, rfl⟩, h⟩
  · exact ⟨⟨_, rfl⟩, .inr ⟨_, rfl⟩, h⟩
  · cases h
theorem mulR_inv (d e r : D) (h : opMulR d e = some r) : (∃ fs, d = .ins .rat fs) ∧ ((∃ fs, e = .ins .rat fs) ∨ ∃ i, e = .int i) ∧ g_Ratio_mul [d, e] = some r := by
  unfold opMulR at h
  split at h
  · exact ⟨⟨_, rfl⟩, .inl ⟨_, rfl⟩, h⟩
  · exact ⟨⟨_, rfl⟩, .inr ⟨_, rfl⟩, h⟩
  · cases h
theorem o_addR (ok : OkX Z X) (cf : RatF Z) (G : GR Z .Add k g_Ratio_add) (hr : Room k X.A) : OpR X (binaryOp .Add) (rD2 Z opAddR) := o_ratBin ok cf G hr addR_inv
theorem o_mulR (ok : OkX Z X) (cf : RatF Z) (G : GR Z .Mult k g_Ratio_mul) (hr : Room k X.A) : OpR X (binaryOp .Mult) (rD2 Z opMulR) := o_ratBin ok cf G hr mulR_inv
theorem o_negR (ok : OkX Z X) (G : GS Z "__neg__" k g_Ratio_neg) (hr : Room k X.A) : UnR X (unaryOp .USub) (rD1 Z opNegR) := by
  intro pins s σ H x v Q I rx ⟨N, d, d', tk, r1, hf, q⟩
  obtain ⟨f, fd, ps, n, g1, g2, g7, g8, g9⟩ := G.ex
  unfold opNegR at hf
  split at hf
  · rename_i fs
    obtain ⟨a, dx, fs', rfl, ea, _⟩ := r1.ins_inv
    cases rx
    obtain ⟨mA, O, _⟩ := ins_get I.hok (avoid_le _ _ ea)
    obtain ⟨od, J, _⟩ := O.look
    obtain ⟨m, F⟩ := I.fr
    refine PySem.W.ksp_neg F I.ok.mod.kin J (by rw [ok.K]; exact g1) (by rw [ok.K]; exact g2) ?_
    refine run_fn (us := [.ref a]) (vs := [.ref a]) (FnOk.atX ok g8) hr (by rw [ok.K]; exact g7) .nil pass0 I (.cons rfl .nil) ?_
    show spF Z n g_Ratio_neg ([.ref a] ++ []) H Q E0
    rw [List.append_nil]
    exact spF_go g9 ⟨N, _, d', tk, .cons r1 .nil, hf, q⟩
  · cases hf
theorem eqR_inv (d e r : D) (h : opEqR d e = some r) : (∃ fs, d = .ins .rat fs) ∧ (∃ fs, e = .ins .rat fs) ∧ g_Ratio_eq [d, e] = some r := by
  unfold opEqR at h
  split at h
  · exact ⟨⟨_, rfl⟩, ⟨_, rfl⟩, h⟩
  · cases h
theorem o_eqR (ok : OkX Z X) (cf : RatF Z) (G : GS Z "__eq__" k g_Ratio_eq) (hr : Room k X.A) : OpR X (compareOp .Eq) (rD2 Z opEqR) := by
  intro pins s σ H x y v u Q I rx ry ⟨N, d, e, d', tk, r1, r2, hf, q⟩
  obtain ⟨f, fd, ps, n, g1, g2, g7, g8, g9⟩ := G.ex
  obtain ⟨⟨fs, rfl⟩, ⟨fs2, rfl⟩, hg⟩ := eqR_inv _ _ _ hf
  obtain ⟨a, dx, fs', rfl, ea, _⟩ := r1.ins_inv
  obtain ⟨b, dx2, fs2', rfl, eb, _⟩ := r2.ins_inv
  cases rx
  cases ry
  obtain ⟨mA, O, _⟩ := ins_get I.hok (avoid_le _ _ ea)
  obtain ⟨od, J, _⟩ := O.look
  obtain ⟨mA2, O2, _⟩ := ins_get I.hok (avoid_le _ _ eb)
  obtain ⟨od2, J2, _⟩ := O2.look
  obtain ⟨m, F⟩ := I.fr
  show wpAny _ _ (richCompare .Eq (.ref a) (.ref b)) _ _ _
  refine PySem.W.cmp_K hr.units0 F I.ok.mod.kin J J2.type (by rw [ok.K]; exact cf.nf) (by rw [ok.K]; exact g1) (by rw [ok.K]; exact g2) ?_
  refine wpAny_mono (run_fn (us := [.ref a, .ref b]) (vs := [.ref a, .ref b]) (FnOk.atX ok g8) hr (by rw [ok.K]; exact g7) .nil pass0 I (.cons rfl (.cons rfl .nil)) ?_) (fun v s' h => cmpBack_of h) fun _ _ h => h
  show spF Z n g_Ratio_eq ([.ref a, .ref b] ++ []) H Q E0
  rw [List.append_nil]
  exact spF_go g9 ⟨N, _, d', tk, .cons r1 (.cons r2 .nil), hg, q⟩
theorem o_neR (ok : OkX Z X) (cc : ClsF Z) (cf : RatF Z) (G : GS Z "__eq__" k g_Ratio_eq) (hr : Room (k + 1) X.A) : OpR X (compareOp .NotEq) (rD2 Z opNeR) := by
  intro pins s σ H x y v u Q I rx ry ⟨N, d, e, d', tk, r1, r2, hf, q⟩
  obtain ⟨f, fd, ps, n, g1, g2, g7, g8, g9⟩ := G.ex
  unfold opNeR at hf
  split at hf
  · rename_i c hc
    cases hf
    obtain ⟨⟨fs, rfl⟩, ⟨fs2, rfl⟩, hg⟩ := eqR_inv _ _ _ hc
    obtain ⟨a, dx, fs', rfl, ea, _⟩ := r1.ins_inv
    obtain ⟨b, dx2, fs2', rfl, eb, _⟩ := r2.ins_inv
    cases rx
    cases ry
    obtain ⟨mA, O, _⟩ := ins_get I.hok (avoid_le _ _ ea)
    obtain ⟨od, J, _⟩ := O.look
    obtain ⟨mA2, O2, _⟩ := ins_get I.hok (avoid_le _ _ eb)
    obtain ⟨od2, J2, _⟩ := O2.look
    refine PySem.W.ne_own (by have := hr.units; omega) I.kIn J J2.type (by rw [ok.K]; exact cf.nf) (by rw [ok.K]; exact cf.ne) (by rw [ok.K]; exact cc.hm .rat) (by rw [ok.K]; exact g1) (by rw [ok.K]; exact g2) ?_
    have G8 := FnOk.atX ok g8
    have g7' : Binds X.K fd ps [] := by rw [ok.K]; exact g7
    have hsp : spF Z n g_Ratio_eq [.ref a, .ref b] H (fun v H' => ∃ c, v = .bl c ∧ Q (.bl (!c)) H') E0 :=
      spF_go g9 ⟨N, _, .bl c, tk, .cons r1 (.cons r2 .nil), hg, fun v H' sm r => ⟨c, r.bl_inv, q _ H' sm (.bl _)⟩⟩
    have hl : ([Value.ref a, .ref b] ++ [] : List Value).length = ps.length := (G8.len _ _ _ _ hsp)
    have rv2 : Vals [V.ref a, V.ref b] [Value.ref a, Value.ref b] := .cons rfl (.cons rfl .nil)
    have hb := g7' s [.ref a, .ref b] I.kIn hl
    rw [List.append_nil] at hb
    refine wpAny_call (codeAny_mono (G8.run X.A.in1 X.stack s H ⟨[.ref a, .ref b], []⟩ [.ref a, .ref b] [.ref a, .ref b] _ E0 hr.in1 I.env0.in1 hb rv2 hsp) fun r s' hq => ?_)
    cases r with
    | error er => exact False.elim hq
    | ok fl =>
      cases fl with
      | ret u =>
        obtain ⟨v, H', I3, rv, c', rfl, q3⟩ := I.after hq
        exact ⟨c', rv, ⟨.bl (!c'), H', I3, rfl, q3⟩⟩
      | next => exact False.elim hq
      | brk => exact False.elim hq
      | cont => exact False.elim hq
  · cases hf
end
end Pd
end
section
set_option Elab.async false
set_option linter.all false
set_option maxRecDepth 100000
set_option maxHeartbeats 4000000
/-! PdTx: the row's defs by their places, what is known of them behind the top, how a def's promise is made. -/
namespace Pd
open PySem PySem.Spec PyProof.Rows L2
/-! ### a def's promise by its body -/
section
variable {Z : Wd} {x xn qual : Str} {params : Arguments} {body : List Stmt} {scope : Scope} {dvs : List V} {f : Addr} {fd : FuncData} {N ps : List Str} {k : Nat} {m : S}
/-- the context of a def's body -/
abbrev Cb (Z : Wd) (N : List Str) (qual : Str) (scope : Scope) (f : Addr) (cdv : Value) (A : Around) (outer : List PySem.Env) (s : Shared) (H : Hp) (E : XK) : Cx := (cxOf CX0 Z.P Z.w Z.K Z.mg Z.base N qual scope f cdv A outer s H E).nox
abbrev Body (Z : Wd) (N : List Str) (qual : Str) (scope : Scope) (f : Addr) (k : Nat) (body : List Stmt) (m : S) : Prop :=
  ∀ (cdv : Value) (A : Around) (outer : List PySem.Env) (s : Shared) (H : Hp) (E : XK), OkX Z (Cb Z N qual scope f cdv A outer s H E) → Room k (Cb Z N qual scope f cdv A outer s H E).A → PSs (Cb Z N qual scope f cdv A outer s H E) body (tDS Z m)
theorem body_go (S : FnScope N ps scope) (h : Body Z N qual scope f k body m) (cdv : Value) (A : Around) (outer : List PySem.Env) (s : Shared) (H : Hp) (E : XK) (hr : Room k (A.deeper (envOfC qual scope s.heap.objs.size f cdv))) : PSs (Cb Z N qual scope f cdv A outer s H E) body (tDS Z m) :=
  h cdv A outer s H E ⟨rfl, rfl, rfl, rfl, rfl, rfl, S.nd⟩ hr
theorem run_len {m : S} {n np : Nat} {ds : List D} {r : D} (h : run m n np ds = some r) : ds.length = np := by
  unfold run at h
  by_cases e : ds.length = np
  · exact e
  · rw [if_neg e] at h; cases h
theorem runO_len {m : S} {n np : Nat} {d : D} {ds : List D} {r : D × D} (h : runO m n np d ds = some r) : ds.length + 1 = np := by
  unfold runO at h
  by_cases e : ds.length + 1 = np
  · exact e
  · rw [if_neg e] at h; cases h
abbrev BindH (xn qual : Str) (params : Arguments) (body : List Stmt) (scope : Scope) (ps : List Str) : Prop := ∀ (kV doc pm : Value) (an : Option Addr) (cdv ct : Value) (us : List Value), us.length = ps.length → bindArgs (PySem.W.fnOf xn qual params body scope .none kV doc pm an cdv ct) ⟨us, []⟩ = pure (ps.zip us)
theorem gf_mk (hm : Z.mg x = some (.ref f)) (F : FunD Z.K xn qual params body scope [] [] f fd) (S : FnScope N ps scope) (hb : BindH xn qual params body scope ps) (h : Body Z N qual scope f k body m) : GF Z x (k + 1) (fun ds => run m N.length ps.length ds) :=
  ⟨f, fd, ps, ps.length, hm, F.kp, F.bindsN hb, fn_pure F S (body_go S h), fun ds r h => run_len h⟩
theorem gf_none (hm : Z.mg x = some (.ref f)) (F : FunD Z.K xn qual params body scope [] [] f fd) (hb : BindH xn qual params body scope ps) : GF Z x k (fun _ => none) :=
  ⟨f, fd, ps, ps.length, hm, F.kp, F.bindsN hb, ⟨fun vs H Q E h => (let ⟨_, _, _, _, _, _, z, _⟩ := h; nomatch z), fun A outer s H args us vs Q E _ _ _ _ h => (let ⟨_, _, _, _, _, _, z, _⟩ := h; nomatch z)⟩, fun ds r h => (nomatch h)⟩
theorem go_mk (hm : Z.mg x = some (.ref f)) (F : FunD Z.K xn qual params body scope [] [] f fd) (S : FnScope N ps scope) (hb : BindH xn qual params body scope ps) (h : Body Z N qual scope f k body m) : GO Z x (k + 1) (fun d ds => runO m N.length ps.length d ds) :=
  ⟨f, fd, ps, ps.length, hm, F.kp, F.bindsN hb, fn_own F S (body_go S h), fun d ds r h => runO_len h⟩
theorem gm_mk {c : Cl} (hm : Z.mg x = some (.ref (Z.cA c))) (M : Mk Z.K (Z.cA c) f) (F : FunD Z.K xn qual params body scope [] [] f fd) (S : FnScope N ps scope) (hb : BindH xn qual params body scope ps) (h : Body Z N qual scope f k body m) : GM Z x c (k + 1) (fun d ds => runO m N.length ps.length d ds) [] :=
  ⟨f, fd, ps, ps.length, [], [], hm, M, F.bindsN hb, .nil, fun _ => .nil, fn_own F S (body_go S h), fun d ds r h => runO_len h⟩
theorem gp_mk {c : Cl} {pp : Addr} (hp : PropOf Z.K (Z.cA c) x pp f) (F : FunD Z.K xn qual params body scope [] [] f fd) (S : FnScope N ps scope) (hb : BindH xn qual params body scope ps) (h : Body Z N qual scope f k body m) : GP Z x c (k + 1) (fun ds => run m N.length ps.length ds) :=
  ⟨pp, f, fd, ps, ps.length, hp, F.bindsN hb, fn_pure F S (body_go S h), fun ds r h => run_len h⟩
theorem gt_mk {c : Cl} (hm : Meth Z.K (Z.cA c) x f) (hx : x ∉ (flds c).map fdS) (F : FunD Z.K xn qual params body scope [] [] f fd) (S : FnScope N ps scope) (hb : BindH xn qual params body scope ps) (h : Body Z N qual scope f k body m) : GT Z x c (k + 1) (fun ds => run m N.length ps.length ds) :=
  ⟨f, fd, ps, ps.length, hm, hx, F.bindsN hb, fn_pure F S (body_go S h), fun ds r h => run_len h⟩
theorem gs_mk (h1 : PySem.W.findIn Z.K (.ref (Z.cA .rat)) x = some (some (.ref f))) (h2 : PySem.W.isFn Z.K (.ref f) = true) (F : FunD Z.K xn qual params body scope [] [] f fd) (S : FnScope N ps scope) (hb : BindH xn qual params body scope ps) (h : Body Z N qual scope f k body m) : GS Z x (k + 1) (fun ds => run m N.length ps.length ds) :=
  ⟨f, fd, ps, ps.length, h1, h2, F.bindsN hb, fn_pure F S (body_go S h), fun ds r h => run_len h⟩
theorem gr_mk {op : Operator} {y z : Str} (e1 : PySem.dunder op.info.2 = y) (e2 : PySem.dunderR op.info.2 = z) (h1 : PySem.W.findIn Z.K (.ref (Z.cA .rat)) y = some (some (.ref f))) (h2 : PySem.W.isFn Z.K (.ref f) = true)
    (h3 : ∃ g : Addr, PySem.W.findIn Z.K (.ref (Z.cA .rat)) z = some (some (.ref g))) (h4 : ∃ fo, PySem.W.findIn Z.K (.type "int") y = some fo) (h5 : ∃ ro, PySem.W.findIn Z.K (.type "int") z = some ro)
    (F : FunD Z.K xn qual params body scope [] [] f fd) (S : FnScope N ps scope) (hb : BindH xn qual params body scope ps) (h : Body Z N qual scope f k body m) : GR Z op (k + 1) (fun ds => run m N.length ps.length ds) := by
  subst e1 e2
  exact let ⟨g, h3⟩ := h3
  let ⟨fo, h4⟩ := h4
  let ⟨ro, h5⟩ := h5
  ⟨f, fd, ps, ps.length, some (.ref g), fo, ro, h1, h2, h3, .inr ⟨g, rfl⟩, h4, h5, F.bindsN hb, fn_pure F S (body_go S h), fun ds r h => run_len h⟩
theorem gk_mk {ks : List Str} {sw : {α : Type} → List α → List α} (hm : Z.mg x = some (.ref f)) (F : FunD Z.K xn qual params body scope [] [] f fd) (S : FnScope N ps scope)
    (hb : ∀ (kV doc pm : Value) (an : Option Addr) (cdv ct : Value) (ws : List Value), ws.length = ks.length → bindArgs (PySem.W.fnOf xn qual params body scope .none kV doc pm an cdv ct) ⟨[], ks.zip ws⟩ = pure (ps.zip (sw ws))) (hl : ks.length = ps.length)
    (hv : ∀ {vs : List V} {us : List Value}, Vals vs us → Vals (sw vs) (sw us)) (hr : ∀ (F : Hp) (vs : List V) (ds : List D), RepL Z F vs ds → vs.length = ps.length → RepL Z F (sw vs) (sw ds)) (h : Body Z N qual scope f k body m) : GK Z x (k + 1) ks (fun ds => run m N.length ps.length ds) sw := by
  obtain ⟨oc, od, dV, kV, doc, pm, an, cdv, ct, osl, e, lk, hcd, hD, hK⟩ := F.ex
  refine ⟨f, fd, ps, ps.length, hm, F.kp, ⟨fun s us ws X l1 l2 => ?_, fun r1 r2 => hv r2⟩, fn_pure F S (body_go S h), fun ds r h => run_len h, hl, hr⟩
  rcases hD with ⟨_, rfl⟩ | ⟨e, _⟩
  · cases us with
    | nil => subst e; exact .of_eq (hb kV doc pm an cdv ct ws l2)
    | cons _ _ => cases l1
  · exact absurd rfl e
/-- a class made, the def has a default behind its first j: n values are written -/
theorem gmd_mk {c : Cl} {v : V} {d : D} (n j : Nat) (hm : Z.mg x = some (.ref (Z.cA c))) (M : Mk Z.K (Z.cA c) f) (F : FunD Z.K xn qual params body scope [v] [] f fd) (S : FnScope N ps scope) (hn : n + (1 - j) = ps.length)
    (hb : ∀ (T : Addr) (kV doc pm : Value) (an : Option Addr) (cdv ct : Value) (us its : List Value), us.length = n → its.length = 1 →
      ∃ k, bindArgs (PySem.W.fnOf xn qual params body scope (.ref T) kV doc pm an cdv ct) ⟨us, []⟩ = seqItems? (.ref T) >>= k ∧ k (some its.toArray) = pure (ps.zip (us ++ its.drop j))) (hv : ∀ F, Rep Z F v d) (h : Body Z N qual scope f k body m) : GM Z x c (k + 1) (fun d ds => runO m N.length ps.length d ds) (([d] : List D).drop j) := by
  obtain ⟨ds, r, b⟩ := F.binds1 n j (by simp) hn hb
  exact ⟨f, fd, ps, ps.length, ([v] : List V).drop j, ds, hm, M, b, r, fun F => RepL.drop j (.cons (hv F) .nil), fn_own F S (body_go S h), fun d ds r h => runO_len h⟩
theorem hu5_of {A : Around} (hr : Room k A) : A.units + 65 < cLine := by have := hr.un; omega
theorem vals_rev {vs : List V} {us : List Value} (h : Vals vs us) : Vals vs.reverse us.reverse := by
  induction h with
  | nil => exact .nil
  | cons r _ ih => rw [List.reverse_cons, List.reverse_cons]; exact ih.append (.cons r .nil)
end

/-! ### what is known behind the top -/
structure Tx (Z : Wd) (defs : List DefP) (glo free : List Str) (cnst : List (Str × Int)) (props : List (Cl × Str)) : Prop where
  cA : ∀ c : Cl, Z.cA c = He.ga Z.K (clN c)
  fn : ∀ d ∈ defs, ∃ fd, d.fnd Z.K fd
  glo : ∀ x ∈ glo, Z.mg x = some (.ref (He.ga Z.K x))
  free : ∀ x ∈ free, Z.mg x = none
  cnst : ∀ p ∈ cnst, ∃ t, Z.mg p.1 = some (.int p.2 t)
  gcd : Z.mg "gcd" = some (.builtin "math.gcd")
  lcm : Z.mg "lcm" = some (.builtin "math.lcm")
  mkc : ∀ c : Cl, Mk Z.K (Z.cA c) (pAd Z.K (.m (clN c) "__init__"))
  prop : ∀ p ∈ props, ∃ pp, PropOf Z.K (Z.cA p.1) p.2 pp (pAd Z.K (.p (clN p.1) p.2))
  rows : Meth Z.K (Z.cA .tab) "rows" (pAd Z.K (.m "Table" "rows"))
  sp : ∀ m ∈ (["__add__", "__mul__", "__neg__", "__eq__"] : List Str), PySem.W.findIn Z.K (.ref (Z.cA .rat)) m = some (some (.ref (pAd Z.K (.m "Ratio" m)))) ∧ PySem.W.isFn Z.K (.ref (pAd Z.K (.m "Ratio" m))) = true
  spr : ∀ m ∈ (["__radd__", "__rmul__"] : List Str), ∃ g : Addr, PySem.W.findIn Z.K (.ref (Z.cA .rat)) m = some (some (.ref g))
  spi : ∀ m ∈ (["__add__", "__mul__", "__radd__", "__rmul__"] : List Str), ∃ o, PySem.W.findIn Z.K (.type "int") m = some o
  cf : ClsF Z
  rf : RatF Z
theorem d_gl {Z : Wd} {X : Cx} {x : Str} {i : Int} {pos : Pos} (hg : Gl X x) (h : ∃ t, X.mg x = some (.int i t)) (hd : (x == ("__debug__" : Str)) = false := by decide) : PE X (.Name x pos) (tD Z (eC (.int i))) := by
  obtain ⟨t, ht⟩ := h
  exact d_glob hg ht ⟨t, rfl⟩ hd
end Pd
end
section
set_option Elab.async false
set_option linter.all false
set_option maxRecDepth 100000
set_option maxHeartbeats 4000000
/-! PdFacts: printed by gen2.py. -/
namespace Pd
open PySem PySem.Spec PyProof.Rows L2
abbrev TX (Z : Wd) : Prop := Tx Z defsL gloL freeL numsL propL
section
variable {Z : Wd}
theorem fn_is_list (T : TX Z) : ∃ fd, D_is_list.fnd Z.K fd := T.fn D_is_list (List.mem_of_getElem? (i := 0) rfl)
theorem fn_is_integer (T : TX Z) : ∃ fd, D_is_integer.fnd Z.K fd := T.fn D_is_integer (List.mem_of_getElem? (i := 1) rfl)
theorem fn_is_number (T : TX Z) : ∃ fd, D_is_number.fnd Z.K fd := T.fn D_is_number (List.mem_of_getElem? (i := 2) rfl)
theorem fn_is_count (T : TX Z) : ∃ fd, D_is_count.fnd Z.K fd := T.fn D_is_count (List.mem_of_getElem? (i := 3) rfl)
theorem fn_is_letter_of (T : TX Z) : ∃ fd, D_is_letter_of.fnd Z.K fd := T.fn D_is_letter_of (List.mem_of_getElem? (i := 4) rfl)
theorem fn_is_word_of (T : TX Z) : ∃ fd, D_is_word_of.fnd Z.K fd := T.fn D_is_word_of (List.mem_of_getElem? (i := 5) rfl)
theorem fn_term_length (T : TX Z) : ∃ fd, D_term_length.fnd Z.K fd := T.fn D_term_length (List.mem_of_getElem? (i := 6) rfl)
theorem fn_is_term (T : TX Z) : ∃ fd, D_is_term.fnd Z.K fd := T.fn D_is_term (List.mem_of_getElem? (i := 7) rfl)
theorem fn_is_term_part (T : TX Z) : ∃ fd, D_is_term_part.fnd Z.K fd := T.fn D_is_term_part (List.mem_of_getElem? (i := 8) rfl)
theorem fn_put_more (T : TX Z) : ∃ fd, D_put_more.fnd Z.K fd := T.fn D_put_more (List.mem_of_getElem? (i := 9) rfl)
theorem fn_divisor_of (T : TX Z) : ∃ fd, D_divisor_of.fnd Z.K fd := T.fn D_divisor_of (List.mem_of_getElem? (i := 10) rfl)
theorem fn_Ratio_init (T : TX Z) : ∃ fd, D_Ratio_init.fnd Z.K fd := T.fn D_Ratio_init (List.mem_of_getElem? (i := 11) rfl)
theorem fn_ratio_of (T : TX Z) : ∃ fd, D_ratio_of.fnd Z.K fd := T.fn D_ratio_of (List.mem_of_getElem? (i := 12) rfl)
theorem fn_sums_told (T : TX Z) : ∃ fd, D_sums_told.fnd Z.K fd := T.fn D_sums_told (List.mem_of_getElem? (i := 13) rfl)
theorem fn_wholes (T : TX Z) : ∃ fd, D_wholes.fnd Z.K fd := T.fn D_wholes (List.mem_of_getElem? (i := 14) rfl)
theorem fn_parts_joined (T : TX Z) : ∃ fd, D_parts_joined.fnd Z.K fd := T.fn D_parts_joined (List.mem_of_getElem? (i := 15) rfl)
theorem fn_want_columns (T : TX Z) : ∃ fd, D_want_columns.fnd Z.K fd := T.fn D_want_columns (List.mem_of_getElem? (i := 16) rfl)
theorem fn_Form_init (T : TX Z) : ∃ fd, D_Form_init.fnd Z.K fd := T.fn D_Form_init (List.mem_of_getElem? (i := 17) rfl)
theorem fn_told_pair (T : TX Z) : ∃ fd, D_told_pair.fnd Z.K fd := T.fn D_told_pair (List.mem_of_getElem? (i := 18) rfl)
theorem fn_Ratio_add (T : TX Z) : ∃ fd, D_Ratio_add.fnd Z.K fd := T.fn D_Ratio_add (List.mem_of_getElem? (i := 19) rfl)
theorem fn_Ratio_eq (T : TX Z) : ∃ fd, D_Ratio_eq.fnd Z.K fd := T.fn D_Ratio_eq (List.mem_of_getElem? (i := 20) rfl)
theorem fn_Ratio_mul (T : TX Z) : ∃ fd, D_Ratio_mul.fnd Z.K fd := T.fn D_Ratio_mul (List.mem_of_getElem? (i := 21) rfl)
theorem fn_Ratio_neg (T : TX Z) : ∃ fd, D_Ratio_neg.fnd Z.K fd := T.fn D_Ratio_neg (List.mem_of_getElem? (i := 22) rfl)
theorem fn_Ratio_is_whole (T : TX Z) : ∃ fd, D_Ratio_is_whole.fnd Z.K fd := T.fn D_Ratio_is_whole (List.mem_of_getElem? (i := 23) rfl)
theorem fn_Ratio_sign (T : TX Z) : ∃ fd, D_Ratio_sign.fnd Z.K fd := T.fn D_Ratio_sign (List.mem_of_getElem? (i := 24) rfl)
theorem fn_Ratio_top (T : TX Z) : ∃ fd, D_Ratio_top.fnd Z.K fd := T.fn D_Ratio_top (List.mem_of_getElem? (i := 25) rfl)
theorem fn_is_row (T : TX Z) : ∃ fd, D_is_row.fnd Z.K fd := T.fn D_is_row (List.mem_of_getElem? (i := 26) rfl)
theorem fn_told_row (T : TX Z) : ∃ fd, D_told_row.fnd Z.K fd := T.fn D_told_row (List.mem_of_getElem? (i := 27) rfl)
theorem fn_Table_init (T : TX Z) : ∃ fd, D_Table_init.fnd Z.K fd := T.fn D_Table_init (List.mem_of_getElem? (i := 28) rfl)
theorem fn_Table_columns (T : TX Z) : ∃ fd, D_Table_columns.fnd Z.K fd := T.fn D_Table_columns (List.mem_of_getElem? (i := 29) rfl)
theorem fn_Table_height (T : TX Z) : ∃ fd, D_Table_height.fnd Z.K fd := T.fn D_Table_height (List.mem_of_getElem? (i := 30) rfl)
theorem fn_Table_rows (T : TX Z) : ∃ fd, D_Table_rows.fnd Z.K fd := T.fn D_Table_rows (List.mem_of_getElem? (i := 31) rfl)
theorem fn__law_arranged (T : TX Z) : ∃ fd, D__law_arranged.fnd Z.K fd := T.fn D__law_arranged (List.mem_of_getElem? (i := 32) rfl)
theorem fn__law_at (T : TX Z) : ∃ fd, D__law_at.fnd Z.K fd := T.fn D__law_at (List.mem_of_getElem? (i := 33) rfl)
theorem fn__law_draw (T : TX Z) : ∃ fd, D__law_draw.fnd Z.K fd := T.fn D__law_draw (List.mem_of_getElem? (i := 34) rfl)
theorem fn__law_letter (T : TX Z) : ∃ fd, D__law_letter.fnd Z.K fd := T.fn D__law_letter (List.mem_of_getElem? (i := 35) rfl)
theorem fn__law_pick (T : TX Z) : ∃ fd, D__law_pick.fnd Z.K fd := T.fn D__law_pick (List.mem_of_getElem? (i := 36) rfl)
theorem fn__law_ways (T : TX Z) : ∃ fd, D__law_ways.fnd Z.K fd := T.fn D__law_ways (List.mem_of_getElem? (i := 37) rfl)
theorem fn__law_form (T : TX Z) : ∃ fd, D__law_form.fnd Z.K fd := T.fn D__law_form (List.mem_of_getElem? (i := 38) rfl)
theorem fn__law_held (T : TX Z) : ∃ fd, D__law_held.fnd Z.K fd := T.fn D__law_held (List.mem_of_getElem? (i := 39) rfl)
theorem fn__law_moved (T : TX Z) : ∃ fd, D__law_moved.fnd Z.K fd := T.fn D__law_moved (List.mem_of_getElem? (i := 40) rfl)
theorem fn__law_plain (T : TX Z) : ∃ fd, D__law_plain.fnd Z.K fd := T.fn D__law_plain (List.mem_of_getElem? (i := 41) rfl)
theorem fn__law_sum (T : TX Z) : ∃ fd, D__law_sum.fnd Z.K fd := T.fn D__law_sum (List.mem_of_getElem? (i := 42) rfl)
theorem fn__law_result (T : TX Z) : ∃ fd, D__law_result.fnd Z.K fd := T.fn D__law_result (List.mem_of_getElem? (i := 43) rfl)
theorem fn__law_is_exchange (T : TX Z) : ∃ fd, D__law_is_exchange.fnd Z.K fd := T.fn D__law_is_exchange (List.mem_of_getElem? (i := 44) rfl)
theorem fn__law_pot (T : TX Z) : ∃ fd, D__law_pot.fnd Z.K fd := T.fn D__law_pot (List.mem_of_getElem? (i := 45) rfl)
theorem fn__law_rows (T : TX Z) : ∃ fd, D__law_rows.fnd Z.K fd := T.fn D__law_rows (List.mem_of_getElem? (i := 46) rfl)
theorem fn_are_alike (T : TX Z) : ∃ fd, D_are_alike.fnd Z.K fd := T.fn D_are_alike (List.mem_of_getElem? (i := 47) rfl)
theorem fn_arrangements_many (T : TX Z) : ∃ fd, D_arrangements_many.fnd Z.K fd := T.fn D_arrangements_many (List.mem_of_getElem? (i := 48) rfl)
theorem fn_grouped (T : TX Z) : ∃ fd, D_grouped.fnd Z.K fd := T.fn D_grouped (List.mem_of_getElem? (i := 49) rfl)
theorem fn_barring_at (T : TX Z) : ∃ fd, D_barring_at.fnd Z.K fd := T.fn D_barring_at (List.mem_of_getElem? (i := 50) rfl)
theorem fn_marked (T : TX Z) : ∃ fd, D_marked.fnd Z.K fd := T.fn D_marked (List.mem_of_getElem? (i := 51) rfl)
theorem fn_raised (T : TX Z) : ∃ fd, D_raised.fnd Z.K fd := T.fn D_raised (List.mem_of_getElem? (i := 52) rfl)
theorem fn_with_less (T : TX Z) : ∃ fd, D_with_less.fnd Z.K fd := T.fn D_with_less (List.mem_of_getElem? (i := 53) rfl)
theorem fn_at_number (T : TX Z) : ∃ fd, D_at_number.fnd Z.K fd := T.fn D_at_number (List.mem_of_getElem? (i := 54) rfl)
theorem fn_rows_for (T : TX Z) : ∃ fd, D_rows_for.fnd Z.K fd := T.fn D_rows_for (List.mem_of_getElem? (i := 55) rfl)
theorem fn_moved_to (T : TX Z) : ∃ fd, D_moved_to.fnd Z.K fd := T.fn D_moved_to (List.mem_of_getElem? (i := 56) rfl)
theorem fn_with_exchange (T : TX Z) : ∃ fd, D_with_exchange.fnd Z.K fd := T.fn D_with_exchange (List.mem_of_getElem? (i := 57) rfl)
theorem fn_unlike_at (T : TX Z) : ∃ fd, D_unlike_at.fnd Z.K fd := T.fn D_unlike_at (List.mem_of_getElem? (i := 58) rfl)
theorem fn_exchange_at_of (T : TX Z) : ∃ fd, D_exchange_at_of.fnd Z.K fd := T.fn D_exchange_at_of (List.mem_of_getElem? (i := 59) rfl)
theorem fn_want_form (T : TX Z) : ∃ fd, D_want_form.fnd Z.K fd := T.fn D_want_form (List.mem_of_getElem? (i := 60) rfl)
theorem fn_exchange_at (T : TX Z) : ∃ fd, D_exchange_at.fnd Z.K fd := T.fn D_exchange_at (List.mem_of_getElem? (i := 61) rfl)
theorem fn_table_of (T : TX Z) : ∃ fd, D_table_of.fnd Z.K fd := T.fn D_table_of (List.mem_of_getElem? (i := 62) rfl)
theorem fn_want_table (T : TX Z) : ∃ fd, D_want_table.fnd Z.K fd := T.fn D_want_table (List.mem_of_getElem? (i := 63) rfl)
theorem fn_exchanged (T : TX Z) : ∃ fd, D_exchanged.fnd Z.K fd := T.fn D_exchanged (List.mem_of_getElem? (i := 64) rfl)
theorem fn_exchange_in (T : TX Z) : ∃ fd, D_exchange_in.fnd Z.K fd := T.fn D_exchange_in (List.mem_of_getElem? (i := 65) rfl)
theorem fn_worth_at (T : TX Z) : ∃ fd, D_worth_at.fnd Z.K fd := T.fn D_worth_at (List.mem_of_getElem? (i := 66) rfl)
theorem fn_worths_at (T : TX Z) : ∃ fd, D_worths_at.fnd Z.K fd := T.fn D_worths_at (List.mem_of_getElem? (i := 67) rfl)
theorem fn_ahead_sums (T : TX Z) : ∃ fd, D_ahead_sums.fnd Z.K fd := T.fn D_ahead_sums (List.mem_of_getElem? (i := 68) rfl)
theorem fn_behind_sums (T : TX Z) : ∃ fd, D_behind_sums.fnd Z.K fd := T.fn D_behind_sums (List.mem_of_getElem? (i := 69) rfl)
theorem fn_total_of (T : TX Z) : ∃ fd, D_total_of.fnd Z.K fd := T.fn D_total_of (List.mem_of_getElem? (i := 70) rfl)
theorem fn_worths_of_form (T : TX Z) : ∃ fd, D_worths_of_form.fnd Z.K fd := T.fn D_worths_of_form (List.mem_of_getElem? (i := 71) rfl)
theorem fn_is_exchange_at (T : TX Z) : ∃ fd, D_is_exchange_at.fnd Z.K fd := T.fn D_is_exchange_at (List.mem_of_getElem? (i := 72) rfl)
theorem fn_is_free_at (T : TX Z) : ∃ fd, D_is_free_at.fnd Z.K fd := T.fn D_is_free_at (List.mem_of_getElem? (i := 73) rfl)
theorem fn__law_right (T : TX Z) : ∃ fd, D__law_right.fnd Z.K fd := T.fn D__law_right (List.mem_of_getElem? (i := 74) rfl)
theorem fn_law (T : TX Z) : ∃ fd, D_law.fnd Z.K fd := T.fn D_law (List.mem_of_getElem? (i := 75) rfl)
theorem gl_is_list (T : TX Z) : Z.mg "is_list" = some (.ref (He.ga Z.K "is_list")) := T.glo _ (List.mem_of_getElem? (i := 0) rfl)
theorem gl_is_integer (T : TX Z) : Z.mg "is_integer" = some (.ref (He.ga Z.K "is_integer")) := T.glo _ (List.mem_of_getElem? (i := 1) rfl)
theorem gl_is_number (T : TX Z) : Z.mg "is_number" = some (.ref (He.ga Z.K "is_number")) := T.glo _ (List.mem_of_getElem? (i := 2) rfl)
theorem gl_is_count (T : TX Z) : Z.mg "is_count" = some (.ref (He.ga Z.K "is_count")) := T.glo _ (List.mem_of_getElem? (i := 3) rfl)
theorem gl_is_letter_of (T : TX Z) : Z.mg "is_letter_of" = some (.ref (He.ga Z.K "is_letter_of")) := T.glo _ (List.mem_of_getElem? (i := 4) rfl)
theorem gl_is_word_of (T : TX Z) : Z.mg "is_word_of" = some (.ref (He.ga Z.K "is_word_of")) := T.glo _ (List.mem_of_getElem? (i := 5) rfl)
theorem gl_term_length (T : TX Z) : Z.mg "term_length" = some (.ref (He.ga Z.K "term_length")) := T.glo _ (List.mem_of_getElem? (i := 6) rfl)
theorem gl_is_term (T : TX Z) : Z.mg "is_term" = some (.ref (He.ga Z.K "is_term")) := T.glo _ (List.mem_of_getElem? (i := 7) rfl)
theorem gl_is_term_part (T : TX Z) : Z.mg "is_term_part" = some (.ref (He.ga Z.K "is_term_part")) := T.glo _ (List.mem_of_getElem? (i := 8) rfl)
theorem gl_put_more (T : TX Z) : Z.mg "put_more" = some (.ref (He.ga Z.K "put_more")) := T.glo _ (List.mem_of_getElem? (i := 9) rfl)
theorem gl_divisor_of (T : TX Z) : Z.mg "divisor_of" = some (.ref (He.ga Z.K "divisor_of")) := T.glo _ (List.mem_of_getElem? (i := 10) rfl)
theorem gl_ratio_of (T : TX Z) : Z.mg "ratio_of" = some (.ref (He.ga Z.K "ratio_of")) := T.glo _ (List.mem_of_getElem? (i := 11) rfl)
theorem gl_sums_told (T : TX Z) : Z.mg "sums_told" = some (.ref (He.ga Z.K "sums_told")) := T.glo _ (List.mem_of_getElem? (i := 12) rfl)
theorem gl_wholes (T : TX Z) : Z.mg "wholes" = some (.ref (He.ga Z.K "wholes")) := T.glo _ (List.mem_of_getElem? (i := 13) rfl)
theorem gl_parts_joined (T : TX Z) : Z.mg "parts_joined" = some (.ref (He.ga Z.K "parts_joined")) := T.glo _ (List.mem_of_getElem? (i := 14) rfl)
theorem gl_want_columns (T : TX Z) : Z.mg "want_columns" = some (.ref (He.ga Z.K "want_columns")) := T.glo _ (List.mem_of_getElem? (i := 15) rfl)
theorem gl_told_pair (T : TX Z) : Z.mg "told_pair" = some (.ref (He.ga Z.K "told_pair")) := T.glo _ (List.mem_of_getElem? (i := 16) rfl)
theorem gl_is_row (T : TX Z) : Z.mg "is_row" = some (.ref (He.ga Z.K "is_row")) := T.glo _ (List.mem_of_getElem? (i := 17) rfl)
theorem gl_told_row (T : TX Z) : Z.mg "told_row" = some (.ref (He.ga Z.K "told_row")) := T.glo _ (List.mem_of_getElem? (i := 18) rfl)
theorem gl__law_arranged (T : TX Z) : Z.mg "_law_arranged" = some (.ref (He.ga Z.K "_law_arranged")) := T.glo _ (List.mem_of_getElem? (i := 19) rfl)
theorem gl__law_at (T : TX Z) : Z.mg "_law_at" = some (.ref (He.ga Z.K "_law_at")) := T.glo _ (List.mem_of_getElem? (i := 20) rfl)
theorem gl__law_draw (T : TX Z) : Z.mg "_law_draw" = some (.ref (He.ga Z.K "_law_draw")) := T.glo _ (List.mem_of_getElem? (i := 21) rfl)
theorem gl__law_letter (T : TX Z) : Z.mg "_law_letter" = some (.ref (He.ga Z.K "_law_letter")) := T.glo _ (List.mem_of_getElem? (i := 22) rfl)
theorem gl__law_pick (T : TX Z) : Z.mg "_law_pick" = some (.ref (He.ga Z.K "_law_pick")) := T.glo _ (List.mem_of_getElem? (i := 23) rfl)
theorem gl__law_ways (T : TX Z) : Z.mg "_law_ways" = some (.ref (He.ga Z.K "_law_ways")) := T.glo _ (List.mem_of_getElem? (i := 24) rfl)
theorem gl__law_form (T : TX Z) : Z.mg "_law_form" = some (.ref (He.ga Z.K "_law_form")) := T.glo _ (List.mem_of_getElem? (i := 25) rfl)
theorem gl__law_held (T : TX Z) : Z.mg "_law_held" = some (.ref (He.ga Z.K "_law_held")) := T.glo _ (List.mem_of_getElem? (i := 26) rfl)
theorem gl__law_moved (T : TX Z) : Z.mg "_law_moved" = some (.ref (He.ga Z.K "_law_moved")) := T.glo _ (List.mem_of_getElem? (i := 27) rfl)
theorem gl__law_plain (T : TX Z) : Z.mg "_law_plain" = some (.ref (He.ga Z.K "_law_plain")) := T.glo _ (List.mem_of_getElem? (i := 28) rfl)
theorem gl__law_sum (T : TX Z) : Z.mg "_law_sum" = some (.ref (He.ga Z.K "_law_sum")) := T.glo _ (List.mem_of_getElem? (i := 29) rfl)
theorem gl__law_result (T : TX Z) : Z.mg "_law_result" = some (.ref (He.ga Z.K "_law_result")) := T.glo _ (List.mem_of_getElem? (i := 30) rfl)
theorem gl__law_is_exchange (T : TX Z) : Z.mg "_law_is_exchange" = some (.ref (He.ga Z.K "_law_is_exchange")) := T.glo _ (List.mem_of_getElem? (i := 31) rfl)
theorem gl__law_pot (T : TX Z) : Z.mg "_law_pot" = some (.ref (He.ga Z.K "_law_pot")) := T.glo _ (List.mem_of_getElem? (i := 32) rfl)
theorem gl__law_rows (T : TX Z) : Z.mg "_law_rows" = some (.ref (He.ga Z.K "_law_rows")) := T.glo _ (List.mem_of_getElem? (i := 33) rfl)
theorem gl_are_alike (T : TX Z) : Z.mg "are_alike" = some (.ref (He.ga Z.K "are_alike")) := T.glo _ (List.mem_of_getElem? (i := 34) rfl)
theorem gl_arrangements_many (T : TX Z) : Z.mg "arrangements_many" = some (.ref (He.ga Z.K "arrangements_many")) := T.glo _ (List.mem_of_getElem? (i := 35) rfl)
theorem gl_grouped (T : TX Z) : Z.mg "grouped" = some (.ref (He.ga Z.K "grouped")) := T.glo _ (List.mem_of_getElem? (i := 36) rfl)
theorem gl_barring_at (T : TX Z) : Z.mg "barring_at" = some (.ref (He.ga Z.K "barring_at")) := T.glo _ (List.mem_of_getElem? (i := 37) rfl)
theorem gl_marked (T : TX Z) : Z.mg "marked" = some (.ref (He.ga Z.K "marked")) := T.glo _ (List.mem_of_getElem? (i := 38) rfl)
theorem gl_raised (T : TX Z) : Z.mg "raised" = some (.ref (He.ga Z.K "raised")) := T.glo _ (List.mem_of_getElem? (i := 39) rfl)
theorem gl_with_less (T : TX Z) : Z.mg "with_less" = some (.ref (He.ga Z.K "with_less")) := T.glo _ (List.mem_of_getElem? (i := 40) rfl)
theorem gl_at_number (T : TX Z) : Z.mg "at_number" = some (.ref (He.ga Z.K "at_number")) := T.glo _ (List.mem_of_getElem? (i := 41) rfl)
theorem gl_rows_for (T : TX Z) : Z.mg "rows_for" = some (.ref (He.ga Z.K "rows_for")) := T.glo _ (List.mem_of_getElem? (i := 42) rfl)
theorem gl_moved_to (T : TX Z) : Z.mg "moved_to" = some (.ref (He.ga Z.K "moved_to")) := T.glo _ (List.mem_of_getElem? (i := 43) rfl)
theorem gl_with_exchange (T : TX Z) : Z.mg "with_exchange" = some (.ref (He.ga Z.K "with_exchange")) := T.glo _ (List.mem_of_getElem? (i := 44) rfl)
theorem gl_unlike_at (T : TX Z) : Z.mg "unlike_at" = some (.ref (He.ga Z.K "unlike_at")) := T.glo _ (List.mem_of_getElem? (i := 45) rfl)
theorem gl_exchange_at_of (T : TX Z) : Z.mg "exchange_at_of" = some (.ref (He.ga Z.K "exchange_at_of")) := T.glo _ (List.mem_of_getElem? (i := 46) rfl)
theorem gl_want_form (T : TX Z) : Z.mg "want_form" = some (.ref (He.ga Z.K "want_form")) := T.glo _ (List.mem_of_getElem? (i := 47) rfl)
theorem gl_exchange_at (T : TX Z) : Z.mg "exchange_at" = some (.ref (He.ga Z.K "exchange_at")) := T.glo _ (List.mem_of_getElem? (i := 48) rfl)
theorem gl_table_of (T : TX Z) : Z.mg "table_of" = some (.ref (He.ga Z.K "table_of")) := T.glo _ (List.mem_of_getElem? (i := 49) rfl)
theorem gl_want_table (T : TX Z) : Z.mg "want_table" = some (.ref (He.ga Z.K "want_table")) := T.glo _ (List.mem_of_getElem? (i := 50) rfl)
theorem gl_exchanged (T : TX Z) : Z.mg "exchanged" = some (.ref (He.ga Z.K "exchanged")) := T.glo _ (List.mem_of_getElem? (i := 51) rfl)
theorem gl_exchange_in (T : TX Z) : Z.mg "exchange_in" = some (.ref (He.ga Z.K "exchange_in")) := T.glo _ (List.mem_of_getElem? (i := 52) rfl)
theorem gl_worth_at (T : TX Z) : Z.mg "worth_at" = some (.ref (He.ga Z.K "worth_at")) := T.glo _ (List.mem_of_getElem? (i := 53) rfl)
theorem gl_worths_at (T : TX Z) : Z.mg "worths_at" = some (.ref (He.ga Z.K "worths_at")) := T.glo _ (List.mem_of_getElem? (i := 54) rfl)
theorem gl_ahead_sums (T : TX Z) : Z.mg "ahead_sums" = some (.ref (He.ga Z.K "ahead_sums")) := T.glo _ (List.mem_of_getElem? (i := 55) rfl)
theorem gl_behind_sums (T : TX Z) : Z.mg "behind_sums" = some (.ref (He.ga Z.K "behind_sums")) := T.glo _ (List.mem_of_getElem? (i := 56) rfl)
theorem gl_total_of (T : TX Z) : Z.mg "total_of" = some (.ref (He.ga Z.K "total_of")) := T.glo _ (List.mem_of_getElem? (i := 57) rfl)
theorem gl_worths_of_form (T : TX Z) : Z.mg "worths_of_form" = some (.ref (He.ga Z.K "worths_of_form")) := T.glo _ (List.mem_of_getElem? (i := 58) rfl)
theorem gl_is_exchange_at (T : TX Z) : Z.mg "is_exchange_at" = some (.ref (He.ga Z.K "is_exchange_at")) := T.glo _ (List.mem_of_getElem? (i := 59) rfl)
theorem gl_is_free_at (T : TX Z) : Z.mg "is_free_at" = some (.ref (He.ga Z.K "is_free_at")) := T.glo _ (List.mem_of_getElem? (i := 60) rfl)
theorem gl__law_right (T : TX Z) : Z.mg "_law_right" = some (.ref (He.ga Z.K "_law_right")) := T.glo _ (List.mem_of_getElem? (i := 61) rfl)
theorem gl_law (T : TX Z) : Z.mg "law" = some (.ref (He.ga Z.K "law")) := T.glo _ (List.mem_of_getElem? (i := 62) rfl)
theorem gc_Ratio (T : TX Z) : Z.mg "Ratio" = some (.ref (Z.cA .rat)) := by
  rw [T.cA .rat]; exact T.glo _ (List.mem_of_getElem? (i := 63) rfl)
theorem gc_Table (T : TX Z) : Z.mg "Table" = some (.ref (Z.cA .tab)) := by
  rw [T.cA .tab]; exact T.glo _ (List.mem_of_getElem? (i := 64) rfl)
theorem gc_Form (T : TX Z) : Z.mg "Form" = some (.ref (Z.cA .frm)) := by
  rw [T.cA .frm]; exact T.glo _ (List.mem_of_getElem? (i := 65) rfl)
theorem fr_isinstance (T : TX Z) : Z.mg "isinstance" = none := T.free _ (List.mem_of_getElem? (i := 0) rfl)
theorem fr_list (T : TX Z) : Z.mg "list" = none := T.free _ (List.mem_of_getElem? (i := 1) rfl)
theorem fr_tuple (T : TX Z) : Z.mg "tuple" = none := T.free _ (List.mem_of_getElem? (i := 2) rfl)
theorem fr_int (T : TX Z) : Z.mg "int" = none := T.free _ (List.mem_of_getElem? (i := 3) rfl)
theorem fr_bool (T : TX Z) : Z.mg "bool" = none := T.free _ (List.mem_of_getElem? (i := 4) rfl)
theorem fr_len (T : TX Z) : Z.mg "len" = none := T.free _ (List.mem_of_getElem? (i := 5) rfl)
theorem fr_all (T : TX Z) : Z.mg "all" = none := T.free _ (List.mem_of_getElem? (i := 6) rfl)
theorem fr_sum (T : TX Z) : Z.mg "sum" = none := T.free _ (List.mem_of_getElem? (i := 7) rfl)
theorem fr_min (T : TX Z) : Z.mg "min" = none := T.free _ (List.mem_of_getElem? (i := 8) rfl)
theorem fr_abs (T : TX Z) : Z.mg "abs" = none := T.free _ (List.mem_of_getElem? (i := 9) rfl)
theorem fr_repr (T : TX Z) : Z.mg "repr" = none := T.free _ (List.mem_of_getElem? (i := 10) rfl)
theorem fr_sorted (T : TX Z) : Z.mg "sorted" = none := T.free _ (List.mem_of_getElem? (i := 11) rfl)
theorem fr_max (T : TX Z) : Z.mg "max" = none := T.free _ (List.mem_of_getElem? (i := 12) rfl)
theorem fr_divmod (T : TX Z) : Z.mg "divmod" = none := T.free _ (List.mem_of_getElem? (i := 13) rfl)
theorem fr_dict (T : TX Z) : Z.mg "dict" = none := T.free _ (List.mem_of_getElem? (i := 14) rfl)
theorem fr_range (T : TX Z) : Z.mg "range" = none := T.free _ (List.mem_of_getElem? (i := 15) rfl)
theorem fr_enumerate (T : TX Z) : Z.mg "enumerate" = none := T.free _ (List.mem_of_getElem? (i := 16) rfl)
theorem fr_zip (T : TX Z) : Z.mg "zip" = none := T.free _ (List.mem_of_getElem? (i := 17) rfl)
theorem fr_set (T : TX Z) : Z.mg "set" = none := T.free _ (List.mem_of_getElem? (i := 18) rfl)
theorem nm_MOST_COLUMNS (T : TX Z) : ∃ t, Z.mg "MOST_COLUMNS" = some (.int 3 t) := T.cnst ("MOST_COLUMNS", 3) (List.mem_of_getElem? (i := 0) rfl)
theorem nm_MOST_LETTERS (T : TX Z) : ∃ t, Z.mg "MOST_LETTERS" = some (.int 8 t) := T.cnst ("MOST_LETTERS", 8) (List.mem_of_getElem? (i := 1) rfl)
theorem nm_MOST_PARTS (T : TX Z) : ∃ t, Z.mg "MOST_PARTS" = some (.int 400 t) := T.cnst ("MOST_PARTS", 400) (List.mem_of_getElem? (i := 2) rfl)
theorem nm_MOST_POWER (T : TX Z) : ∃ t, Z.mg "MOST_POWER" = some (.int 8 t) := T.cnst ("MOST_POWER", 8) (List.mem_of_getElem? (i := 3) rfl)
theorem nm_MOST_ROWS (T : TX Z) : ∃ t, Z.mg "MOST_ROWS" = some (.int 40 t) := T.cnst ("MOST_ROWS", 40) (List.mem_of_getElem? (i := 4) rfl)
theorem sc_is_list : FnScope ["value"] ["value"] (defScope (st 15)) := ⟨rfl, rfl, rfl, by decide +kernel, rfl, by decide +kernel, by decide +kernel⟩
theorem sc_is_integer : FnScope ["value"] ["value"] (defScope (st 13)) := ⟨rfl, rfl, rfl, by decide +kernel, rfl, by decide +kernel, by decide +kernel⟩
theorem sc_is_number : FnScope ["value"] ["value"] (defScope (st 22)) := ⟨rfl, rfl, rfl, by decide +kernel, rfl, by decide +kernel, by decide +kernel⟩
theorem sc_is_count : FnScope ["value"] ["value"] (defScope (st 14)) := ⟨rfl, rfl, rfl, by decide +kernel, rfl, by decide +kernel, by decide +kernel⟩
theorem sc_is_letter_of : FnScope ["columns", "value", "power"] ["columns", "value"] (defScope (st 40)) := ⟨rfl, rfl, rfl, by decide +kernel, rfl, by decide +kernel, by decide +kernel⟩
theorem sc_is_word_of : FnScope ["columns", "value", "letter"] ["columns", "value"] (defScope (st 41)) := ⟨rfl, rfl, rfl, by decide +kernel, rfl, by decide +kernel, by decide +kernel⟩
theorem sc_term_length : FnScope ["term"] ["term"] (defScope (st 55)) := ⟨rfl, rfl, rfl, by decide +kernel, rfl, by decide +kernel, by decide +kernel⟩
theorem sc_is_term : FnScope ["columns", "value", "left", "own", "right"] ["columns", "value"] (defScope (st 52)) := ⟨rfl, rfl, rfl, by decide +kernel, rfl, by decide +kernel, by decide +kernel⟩
theorem sc_is_term_part : FnScope ["columns", "value"] ["columns", "value"] (defScope (st 53)) := ⟨rfl, rfl, rfl, by decide +kernel, rfl, by decide +kernel, by decide +kernel⟩
theorem sc_put_more : FnScope ["sums", "key", "number"] ["sums", "key", "number"] (defScope (st 48)) := ⟨rfl, rfl, rfl, by decide +kernel, rfl, by decide +kernel, by decide +kernel⟩
theorem sc_divisor_of : FnScope ["one", "other"] ["one", "other"] (defScope (st 19)) := ⟨rfl, rfl, rfl, by decide +kernel, rfl, by decide +kernel, by decide +kernel⟩
theorem sc_Ratio_init : FnScope ["self", "top", "bottom", "common"] ["self", "top", "bottom"] (defScope (mth 20 0)) := ⟨rfl, rfl, rfl, by decide +kernel, rfl, by decide +kernel, by decide +kernel⟩
theorem sc_ratio_of : FnScope ["number"] ["number"] (defScope (st 23)) := ⟨rfl, rfl, rfl, by decide +kernel, rfl, by decide +kernel, by decide +kernel⟩
theorem sc_sums_told : FnScope ["bottom", "sums", "key"] ["bottom", "sums"] (defScope (st 49)) := ⟨rfl, rfl, rfl, by decide +kernel, rfl, by decide +kernel, by decide +kernel⟩
theorem sc_wholes : FnScope ["ratios", "bottom", "ratio"] ["ratios"] (defScope (st 25)) := ⟨rfl, rfl, rfl, by decide +kernel, rfl, by decide +kernel, by decide +kernel⟩
theorem sc_parts_joined : FnScope ["parts", "sums", "bottom", "factors", "factor", "key", "number"] ["parts"] (defScope (st 50)) := ⟨rfl, rfl, rfl, by decide +kernel, rfl, by decide +kernel, by decide +kernel⟩
theorem sc_want_columns : FnScope ["value"] ["value"] (defScope (st 30)) := ⟨rfl, rfl, rfl, by decide +kernel, rfl, by decide +kernel, by decide +kernel⟩
theorem sc_Form_init : FnScope ["self", "columns", "parts", "one"] ["self", "columns", "parts"] (defScope (mth 54 0)) := ⟨rfl, rfl, rfl, by decide +kernel, rfl, by decide +kernel, by decide +kernel⟩
theorem sc_told_pair : FnScope ["value"] ["value"] (defScope (st 21)) := ⟨rfl, rfl, rfl, by decide +kernel, rfl, by decide +kernel, by decide +kernel⟩
theorem sc_Ratio_add : FnScope ["self", "other", "top", "bottom"] ["self", "other"] (defScope (mth 20 6)) := ⟨rfl, rfl, rfl, by decide +kernel, rfl, by decide +kernel, by decide +kernel⟩
theorem sc_Ratio_eq : FnScope ["self", "other"] ["self", "other"] (defScope (mth 20 17)) := ⟨rfl, rfl, rfl, by decide +kernel, rfl, by decide +kernel, by decide +kernel⟩
theorem sc_Ratio_mul : FnScope ["self", "other", "top", "bottom"] ["self", "other"] (defScope (mth 20 10)) := ⟨rfl, rfl, rfl, by decide +kernel, rfl, by decide +kernel, by decide +kernel⟩
theorem sc_Ratio_neg : FnScope ["self"] ["self"] (defScope (mth 20 12)) := ⟨rfl, rfl, rfl, by decide +kernel, rfl, by decide +kernel, by decide +kernel⟩
theorem sc_Ratio_is_whole : FnScope ["self"] ["self"] (defScope (mth 20 4)) := ⟨rfl, rfl, rfl, by decide +kernel, rfl, by decide +kernel, by decide +kernel⟩
theorem sc_Ratio_sign : FnScope ["self"] ["self"] (defScope (mth 20 3)) := ⟨rfl, rfl, rfl, by decide +kernel, rfl, by decide +kernel, by decide +kernel⟩
theorem sc_Ratio_top : FnScope ["self"] ["self"] (defScope (mth 20 1)) := ⟨rfl, rfl, rfl, by decide +kernel, rfl, by decide +kernel, by decide +kernel⟩
theorem sc_is_row : FnScope ["columns", "value", "number"] ["columns", "value"] (defScope (st 31)) := ⟨rfl, rfl, rfl, by decide +kernel, rfl, by decide +kernel, by decide +kernel⟩
theorem sc_told_row : FnScope ["row", "number"] ["row"] (defScope (st 32)) := ⟨rfl, rfl, rfl, by decide +kernel, rfl, by decide +kernel, by decide +kernel⟩
theorem sc_Table_init : FnScope ["self", "columns", "rows", "row"] ["self", "columns", "rows"] (defScope (mth 33 0)) := ⟨rfl, rfl, rfl, by decide +kernel, rfl, by decide +kernel, by decide +kernel⟩
theorem sc_Table_columns : FnScope ["self"] ["self"] (defScope (mth 33 1)) := ⟨rfl, rfl, rfl, by decide +kernel, rfl, by decide +kernel, by decide +kernel⟩
theorem sc_Table_height : FnScope ["self"] ["self"] (defScope (mth 33 2)) := ⟨rfl, rfl, rfl, by decide +kernel, rfl, by decide +kernel, by decide +kernel⟩
theorem sc_Table_rows : FnScope ["self", "row"] ["self"] (defScope (mth 33 3)) := ⟨rfl, rfl, rfl, by decide +kernel, rfl, by decide +kernel, by decide +kernel⟩
theorem sc__law_arranged : FnScope ["_law_letters", "_law_found", "_law_at_here", "_law_letter_here", "_law_rest"] ["_law_letters"] (defScope (st 83)) := ⟨rfl, rfl, rfl, by decide +kernel, rfl, by decide +kernel, by decide +kernel⟩
theorem sc__law_at : FnScope ["_law_letter_here", "_law_row", "_law_found", "_law_power", "_law_number", "_law_turn"] ["_law_letter_here", "_law_row"] (defScope (st 81)) := ⟨rfl, rfl, rfl, by decide +kernel, rfl, by decide +kernel, by decide +kernel⟩
theorem sc__law_draw : FnScope ["_law_pot_here", "_law_many", "_law_digit"] ["_law_pot_here", "_law_many"] (defScope (st 78)) := ⟨rfl, rfl, rfl, by decide +kernel, rfl, by decide +kernel, by decide +kernel⟩
theorem sc__law_letter : FnScope ["_law_pot_here", "_law_columns", "_law_column"] ["_law_pot_here", "_law_columns"] (defScope (st 80)) := ⟨rfl, rfl, rfl, by decide +kernel, rfl, by decide +kernel, by decide +kernel⟩
theorem sc__law_pick : FnScope ["_law_pot_here", "_law_some"] ["_law_pot_here", "_law_some"] (defScope (st 79)) := ⟨rfl, rfl, rfl, by decide +kernel, rfl, by decide +kernel, by decide +kernel⟩
theorem sc__law_ways : FnScope ["_law_letters", "_law_found", "_law_word", "_law_at_here"] ["_law_letters"] (defScope (st 85)) := ⟨rfl, rfl, rfl, by decide +kernel, rfl, by decide +kernel, by decide +kernel⟩
theorem sc__law_form : FnScope ["_law_pot_here", "_law_columns", "_law_most", "_law_found", "_law_turn", "_law_some", "_law_own", "_law_factor", "_law_left", "_law_right_here", "_law_term", "_law_spot"] ["_law_pot_here", "_law_columns", "_law_most"] (defScope (st 86)) := ⟨rfl, rfl, rfl, by decide +kernel, rfl, by decide +kernel, by decide +kernel⟩
theorem sc__law_held : FnScope ["_law_parts", "_law_found", "_law_left", "_law_own", "_law_right_here", "_law_some", "_law_one", "_law_other"] ["_law_parts"] (defScope (st 88)) := ⟨rfl, rfl, rfl, by decide +kernel, rfl, by decide +kernel, by decide +kernel⟩
theorem sc__law_moved : FnScope ["_law_position", "_law_at_here"] ["_law_position", "_law_at_here"] (defScope (st 90)) := ⟨rfl, rfl, rfl, by decide +kernel, rfl, by decide +kernel, by decide +kernel⟩
theorem sc__law_plain : FnScope ["_law_rows_here", "_law_found", "_law_row", "_law_number"] ["_law_rows_here"] (defScope (st 89)) := ⟨rfl, rfl, rfl, by decide +kernel, rfl, by decide +kernel, by decide +kernel⟩
theorem sc__law_sum : FnScope ["_law_word", "_law_rows_here", "_law_sums", "_law_row", "_law_at_here"] ["_law_word", "_law_rows_here"] (defScope (st 82)) := ⟨rfl, rfl, rfl, by decide +kernel, rfl, by decide +kernel, by decide +kernel⟩
theorem sc__law_result : FnScope ["_law_parts", "_law_rows_here", "_law_at_here", "_law_term"] ["_law_parts", "_law_rows_here", "_law_at_here"] (defScope (st 87)) := ⟨rfl, rfl, rfl, by decide +kernel, rfl, by decide +kernel, by decide +kernel⟩
theorem sc__law_is_exchange : FnScope ["_law_parts", "_law_columns", "_law_height", "_law_told", "_law_other", "_law_goal", "_law_rows_here", "_law_position", "_law_at_here", "_law_one"] ["_law_parts", "_law_columns", "_law_height", "_law_told"] (defScope (st 91)) := ⟨rfl, rfl, rfl, by decide +kernel, rfl, by decide +kernel, by decide +kernel⟩
theorem sc__law_pot : FnScope ["_law_script", "_law_k", "_law_cell"] ["_law_script", "_law_k"] (defScope (st 77)) := ⟨rfl, rfl, rfl, by decide +kernel, rfl, by decide +kernel, by decide +kernel⟩
theorem sc__law_rows : FnScope ["_law_pot_here", "_law_columns", "_law_many", "_law_turn", "_law_column"] ["_law_pot_here", "_law_columns", "_law_many"] (defScope (st 84)) := ⟨rfl, rfl, rfl, by decide +kernel, rfl, by decide +kernel, by decide +kernel⟩
theorem sc_are_alike : FnScope ["ratios", "many", "ratio"] ["ratios", "many"] (defScope (st 61)) := ⟨rfl, rfl, rfl, by decide +kernel, rfl, by decide +kernel, by decide +kernel⟩
theorem sc_arrangements_many : FnScope ["letters", "found", "last", "alike", "many", "letter"] ["letters"] (defScope (st 60)) := ⟨rfl, rfl, rfl, by decide +kernel, rfl, by decide +kernel, by decide +kernel⟩
theorem sc_grouped : FnScope ["rows", "found", "key", "value"] ["rows"] (defScope (st 59)) := ⟨rfl, rfl, rfl, by decide +kernel, rfl, by decide +kernel, by decide +kernel⟩
theorem sc_barring_at : FnScope ["parts", "rows", "groups", "found", "key", "lot", "part"] ["parts"] (defScope (st 69)) := ⟨rfl, rfl, rfl, by decide +kernel, rfl, by decide +kernel, by decide +kernel⟩
theorem sc_marked : FnScope ["part", "number", "left", "own", "right"] ["part"] (defScope (st 68)) := ⟨rfl, rfl, rfl, by decide +kernel, rfl, by decide +kernel, by decide +kernel⟩
theorem sc_raised : FnScope ["number", "power", "found", "turn"] ["number", "power"] (defScope (st 65)) := ⟨rfl, rfl, rfl, by decide +kernel, rfl, by decide +kernel, by decide +kernel⟩
theorem sc_with_less : FnScope ["sums", "key", "number", "found"] ["sums", "key", "number"] (defScope (st 64)) := ⟨rfl, rfl, rfl, by decide +kernel, rfl, by decide +kernel, by decide +kernel⟩
theorem sc_at_number : FnScope ["sums", "place", "column", "number", "found", "word", "power", "letter"] ["sums", "place", "column", "number"] (defScope (st 66)) := ⟨rfl, rfl, rfl, by decide +kernel, rfl, by decide +kernel, by decide +kernel⟩
theorem sc_rows_for : FnScope ["columns", "many", "sums", "rows", "place", "row", "column", "number"] ["columns", "many", "sums"] (defScope (st 67)) := ⟨rfl, rfl, rfl, by decide +kernel, rfl, by decide +kernel, by decide +kernel⟩
theorem sc_moved_to : FnScope ["position", "at"] ["position", "at"] (defScope (st 62)) := ⟨rfl, rfl, rfl, by decide +kernel, rfl, by decide +kernel, by decide +kernel⟩
theorem sc_with_exchange : FnScope ["row", "at"] ["row", "at"] (defScope (st 63)) := ⟨rfl, rfl, rfl, by decide +kernel, rfl, by decide +kernel, by decide +kernel⟩
theorem sc_unlike_at : FnScope ["rows", "position", "at", "found", "word", "place", "number"] ["rows", "position", "at"] (defScope (st 70)) := ⟨rfl, rfl, rfl, by decide +kernel, rfl, by decide +kernel, by decide +kernel⟩
theorem sc_exchange_at_of : FnScope ["form", "barred", "many", "rows", "position", "at", "row", "sums", "part", "own", "lot"] ["form"] (defScope (st 71)) := ⟨rfl, rfl, rfl, by decide +kernel, rfl, by decide +kernel, by decide +kernel⟩
theorem sc_want_form : FnScope ["value"] ["value"] (defScope (st 56)) := ⟨rfl, rfl, rfl, by decide +kernel, rfl, by decide +kernel, by decide +kernel⟩
theorem sc_exchange_at : FnScope ["form"] ["form"] (defScope (st 74)) := ⟨rfl, rfl, rfl, by decide +kernel, rfl, by decide +kernel, by decide +kernel⟩
theorem sc_table_of : FnScope ["columns", "rows", "row"] ["columns", "rows"] (defScope (st 34)) := ⟨rfl, rfl, rfl, by decide +kernel, rfl, by decide +kernel, by decide +kernel⟩
theorem sc_want_table : FnScope ["value"] ["value"] (defScope (st 35)) := ⟨rfl, rfl, rfl, by decide +kernel, rfl, by decide +kernel, by decide +kernel⟩
theorem sc_exchanged : FnScope ["table", "position", "told", "rows"] ["table", "position"] (defScope (st 36)) := ⟨rfl, rfl, rfl, by decide +kernel, rfl, by decide +kernel, by decide +kernel⟩
theorem sc_exchange_in : FnScope ["columns", "value", "many", "height", "one"] ["columns", "value", "many"] (defScope (st 72)) := ⟨rfl, rfl, rfl, by decide +kernel, rfl, by decide +kernel, by decide +kernel⟩
theorem sc_worth_at : FnScope ["letter", "row", "top", "bottom", "power", "number", "turn"] ["letter", "row"] (defScope (st 42)) := ⟨rfl, rfl, rfl, by decide +kernel, rfl, by decide +kernel, by decide +kernel⟩
theorem sc_worths_at : FnScope ["letter", "rows", "row"] ["letter", "rows"] (defScope (st 43)) := ⟨rfl, rfl, rfl, by decide +kernel, rfl, by decide +kernel, by decide +kernel⟩
theorem sc_ahead_sums : FnScope ["rows", "word", "letter", "found", "below", "bottom", "worths", "total", "late", "before", "worth", "number"] ["rows", "word"] (defScope (st 44)) := ⟨rfl, rfl, rfl, by decide +kernel, rfl, by decide +kernel, by decide +kernel⟩
theorem sc_behind_sums : FnScope ["rows", "word"] ["rows", "word"] (defScope (st 45)) := ⟨rfl, rfl, rfl, by decide +kernel, rfl, by decide +kernel, by decide +kernel⟩
theorem sc_total_of : FnScope ["ratios", "found", "ratio"] ["ratios"] (defScope (st 26)) := ⟨rfl, rfl, rfl, by decide +kernel, rfl, by decide +kernel, by decide +kernel⟩
theorem sc_worths_of_form : FnScope ["form", "rows", "found", "ahead", "behind", "factor", "at", "row", "some", "left", "own", "right", "near", "far"] ["form", "rows"] (defScope (st 57)) := ⟨rfl, rfl, rfl, by decide +kernel, rfl, by decide +kernel, by decide +kernel⟩
theorem sc_is_exchange_at : FnScope ["form", "value", "told", "table", "position", "at", "ahead", "behind"] ["form", "value"] (defScope (st 75)) := ⟨rfl, rfl, rfl, by decide +kernel, rfl, by decide +kernel, by decide +kernel⟩
theorem sc_is_free_at : FnScope ["form"] ["form"] (defScope (st 73)) := ⟨rfl, rfl, rfl, by decide +kernel, rfl, by decide +kernel, by decide +kernel⟩
theorem sc__law_right : FnScope ["_law_pot_here", "_law_columns", "_law_parts", "_law_told", "_law_rows_here", "_law_base", "_law_order", "_law_form_here", "_law_held_here", "_law_back", "_law_here", "_law_at_here", "_law_term", "_law_spot"] ["_law_pot_here"] (defScope (st 92)) := ⟨rfl, rfl, rfl, by decide +kernel, rfl, by decide +kernel, by decide +kernel⟩
theorem sc_law : FnScope ["_law_script"] ["_law_script"] (defScope (st 93)) := ⟨rfl, rfl, rfl, by decide +kernel, rfl, by decide +kernel, by decide +kernel⟩
end
end Pd
end
section
set_option Elab.async false
set_option linter.all false
set_option maxRecDepth 100000
set_option maxHeartbeats 4000000
/-! PdD: printed by gen2.py. -/
namespace Pd
open PySem PySem.Spec PyProof.Rows L2

section
variable {Z : Wd}
theorem ok_is_list (T : TX Z) : GF Z "is_list" 1 g_is_list := by
  obtain ⟨fd, F⟩ := fn_is_list T
  exact gf_mk (gl_is_list T) F sc_is_list (fun _ _ _ _ _ _ us hl => match us, hl with | [_], _ => rfl) (fun cdv A outer s H E ok hr => (have hu := hr.units
    
    (s_one (s_ret (d_isiLT ok rfl (fr_isinstance T) (d_var (pv 0)) rfl (fr_list T) rfl (fr_tuple T))))))
theorem ok_is_integer (T : TX Z) : GF Z "is_integer" 1 g_is_integer := by
  obtain ⟨fd, F⟩ := fn_is_integer T
  exact gf_mk (gl_is_integer T) F sc_is_integer (fun _ _ _ _ _ _ us hl => match us, hl with | [_], _ => rfl) (fun cdv A outer s H E ok hr => (have hu := hr.units
    
    (s_one (s_ret (d_and (d_isiB (T := .int) ok T.cf rfl rfl (fr_isinstance T) (d_var (pv 0)) rfl (fr_int T) (by decide +kernel)) (d_one (d_not (d_isiB (T := .bool) ok T.cf rfl rfl (fr_isinstance T) (d_var (pv 0)) rfl (fr_bool T) (by decide +kernel)))))))))
theorem ok_is_number (T : TX Z) : GF Z "is_number" 2 g_is_number := by
  obtain ⟨fd, F⟩ := fn_is_number T
  exact gf_mk (gl_is_number T) F sc_is_number (fun _ _ _ _ _ _ us hl => match us, hl with | [_], _ => rfl) (fun cdv A outer s H E ok hr => (have hu := hr.units
    
    (s_one (s_ret (d_or (d_call ok (ok_is_integer T) (hr.mono (by decide : 1 ≤ 1)) rfl (da_cons (d_var (pv 0)) da_nil)) (d_one (d_isiC (cl := .rat) ok T.cf rfl (fr_isinstance T) (d_var (pv 0)) rfl (gc_Ratio T))))))))
theorem ok_is_count (T : TX Z) : GF Z "is_count" 2 g_is_count := by
  obtain ⟨fd, F⟩ := fn_is_count T
  exact gf_mk (gl_is_count T) F sc_is_count (fun _ _ _ _ _ _ us hl => match us, hl with | [_], _ => rfl) (fun cdv A outer s H E ok hr => (have hu := hr.units
    
    (s_one (s_ret (d_and (d_call ok (ok_is_integer T) (hr.mono (by decide : 1 ≤ 1)) rfl (da_cons (d_var (pv 0)) da_nil)) (d_one (d_cmp o_ge (d_var (pv 0)) d_int (nomark _))))))))
theorem ok_is_letter_of (T : TX Z) : GF Z "is_letter_of" 3 g_is_letter_of := by
  obtain ⟨fd, F⟩ := fn_is_letter_of T
  exact gf_mk (gl_is_letter_of T) F sc_is_letter_of (fun _ _ _ _ _ _ us hl => match us, hl with | [_, _], _ => rfl) (fun cdv A outer s H E ok hr => (have hu := hr.units
    
    (s_cons (s_if (dt_w (dw_or (dt_not (dt_val (d_isiB (T := .tuple) ok T.cf rfl rfl (fr_isinstance T) (d_var (pv 1)) rfl (fr_tuple T) (by decide +kernel)))) (dw_or1 (dt_cmp (o_ne hu) (d_callB c_len rfl (fr_len T) (by decide +kernel) (da_cons (d_var (pv 1)) da_nil)) (d_var (pv 0)) (nomark _))))) (s_one (s_ret d_bl)) s_nil)
      (s_one (s_ret (d_callB (c_all rfl) rfl (fr_all T) (by decide +kernel) (da_cons (d_comp (own := [("power", 2)]) (vs := [2]) rfl sc_is_letter_of.nd (di_tup (d_var (pv 1))) (blkOk_by (sc := defScope (st 40)) (N := ["columns", "value", "power"]) (by decide +kernel)) rfl (fun _ _ _ _ _ => (dg_name (pg_name (i := 2) sc_is_letter_of.nd rfl (Or.inl rfl)))) (fun _ _ _ _ _ => dts_nil) (fun _ _ _ _ _ => (d_and (d_call ok.blk (ok_is_count T) (hr.mono (by decide : 2 ≤ 2)) rfl (da_cons (d_var (pv 2)) da_nil)) (d_one (d_cmp o_le (d_var (pv 2)) (d_gl rfl (nm_MOST_POWER T)) (nomark _)))))) da_nil)))))))
theorem ok_is_word_of (T : TX Z) : GF Z "is_word_of" 4 g_is_word_of := by
  obtain ⟨fd, F⟩ := fn_is_word_of T
  exact gf_mk (gl_is_word_of T) F sc_is_word_of (fun _ _ _ _ _ _ us hl => match us, hl with | [_, _], _ => rfl) (fun cdv A outer s H E ok hr => (have hu := hr.units
    
    (s_cons (s_if (dt_w (dw_or (dt_not (dt_val (d_isiB (T := .tuple) ok T.cf rfl rfl (fr_isinstance T) (d_var (pv 1)) rfl (fr_tuple T) (by decide +kernel)))) (dw_or1 (dt_cmp o_gt (d_callB c_len rfl (fr_len T) (by decide +kernel) (da_cons (d_var (pv 1)) da_nil)) (d_gl rfl (nm_MOST_LETTERS T)) (nomark _))))) (s_one (s_ret d_bl)) s_nil)
      (s_one (s_ret (d_callB (c_all rfl) rfl (fr_all T) (by decide +kernel) (da_cons (d_comp (own := [("letter", 2)]) (vs := [2]) rfl sc_is_word_of.nd (di_tup (d_var (pv 1))) (blkOk_by (sc := defScope (st 41)) (N := ["columns", "value", "letter"]) (by decide +kernel)) rfl (fun _ _ _ _ _ => (dg_name (pg_name (i := 2) sc_is_word_of.nd rfl (Or.inl rfl)))) (fun _ _ _ _ _ => dts_nil) (fun _ _ _ _ _ => (d_call ok.blk (ok_is_letter_of T) (hr.mono (by decide : 3 ≤ 3)) rfl (da_cons (d_var (pv 0)) (da_cons (d_var (pv 2)) da_nil))))) da_nil)))))))
theorem ok_term_length (T : TX Z) : GF Z "term_length" 1 g_term_length := by
  obtain ⟨fd, F⟩ := fn_term_length T
  exact gf_mk (gl_term_length T) F sc_term_length (fun _ _ _ _ _ _ us hl => match us, hl with | [_], _ => rfl) (fun cdv A outer s H E ok hr => (have hu := hr.units
    
    (s_one (s_ret (d_op o_add (d_op o_add (d_callB c_len rfl (fr_len T) (by decide +kernel) (da_cons (d_ix (o_ix ok hu) (d_var (pv 0)) d_int (fun _ _ => rfl)) da_nil)) d_int) (d_callB c_len rfl (fr_len T) (by decide +kernel) (da_cons (d_ix (o_ix ok hu) (d_var (pv 0)) d_int (fun _ _ => rfl)) da_nil)))))))
theorem ok_is_term (T : TX Z) : GF Z "is_term" 5 g_is_term := by
  obtain ⟨fd, F⟩ := fn_is_term T
  exact gf_mk (gl_is_term T) F sc_is_term (fun _ _ _ _ _ _ us hl => match us, hl with | [_, _], _ => rfl) (fun cdv A outer s H E ok hr => (have hu := hr.units
    
    (s_cons (s_if (dt_w (dw_or (dt_not (dt_val (d_isiB (T := .tuple) ok T.cf rfl rfl (fr_isinstance T) (d_var (pv 1)) rfl (fr_tuple T) (by decide +kernel)))) (dw_or1 (dt_cmp (o_ne hu) (d_callB c_len rfl (fr_len T) (by decide +kernel) (da_cons (d_var (pv 1)) da_nil)) d_int (nomark _))))) (s_one (s_ret d_bl)) s_nil)
      (s_cons (s_asg (ks := [2, 3, 4]) (d_var (pv 1)) (dg_tup rfl (dgs_cons (dg_name (pg_name (i := 2) sc_is_term.nd rfl (Or.inl rfl))) (dgs_cons (dg_name (pg_name (i := 3) sc_is_term.nd rfl (Or.inl rfl))) (dgs_cons (dg_name (pg_name (i := 4) sc_is_term.nd rfl (Or.inl rfl))) dgs_nil)))))
      (s_cons (s_if (dt_w (dw_or (dt_not (dt_val (d_call ok (ok_is_word_of T) (hr.mono (by decide : 4 ≤ 4)) rfl (da_cons (d_var (pv 0)) (da_cons (d_var (pv 2)) da_nil))))) (dw_or (dt_not (dt_val (d_call ok (ok_is_letter_of T) (hr.mono (by decide : 3 ≤ 4)) rfl (da_cons (d_var (pv 0)) (da_cons (d_var (pv 3)) da_nil))))) (dw_or1 (dt_not (dt_val (d_call ok (ok_is_word_of T) (hr.mono (by decide : 4 ≤ 4)) rfl (da_cons (d_var (pv 0)) (da_cons (d_var (pv 4)) da_nil))))))))) (s_one (s_ret d_bl)) s_nil)
      (s_one (s_ret (d_cmp o_le (d_call ok (ok_term_length T) (hr.mono (by decide : 1 ≤ 4)) rfl (da_cons (d_var (pv 1)) da_nil)) (d_gl rfl (nm_MOST_LETTERS T)) (nomark _)))))))))
theorem ok_is_term_part (T : TX Z) : GF Z "is_term_part" 6 g_is_term_part := by
  obtain ⟨fd, F⟩ := fn_is_term_part T
  exact gf_mk (gl_is_term_part T) F sc_is_term_part (fun _ _ _ _ _ _ us hl => match us, hl with | [_, _], _ => rfl) (fun cdv A outer s H E ok hr => (have hu := hr.units
    
    (s_one (s_ret (d_and (d_isiB (T := .tuple) ok T.cf rfl rfl (fr_isinstance T) (d_var (pv 1)) rfl (fr_tuple T) (by decide +kernel)) (d_and (d_cmp (o_eq hu) (d_callB c_len rfl (fr_len T) (by decide +kernel) (da_cons (d_var (pv 1)) da_nil)) d_int (nomark _)) (d_and (d_call ok (ok_is_term T) (hr.mono (by decide : 5 ≤ 5)) rfl (da_cons (d_var (pv 0)) (da_cons (d_ix (o_ix ok hu) (d_var (pv 1)) d_int (fun _ _ => rfl)) da_nil))) (d_one (d_call ok (ok_is_number T) (hr.mono (by decide : 2 ≤ 5)) rfl (da_cons (d_ix (o_ix ok hu) (d_var (pv 1)) d_int (fun _ _ => rfl)) da_nil))))))))))
end
end Pd
end
section
set_option Elab.async false
set_option linter.all false
set_option maxRecDepth 100000
set_option maxHeartbeats 4000000
/-! PdD: printed by gen2.py. -/
namespace Pd
open PySem PySem.Spec PyProof.Rows L2

section
variable {Z : Wd}
theorem ok_put_more (T : TX Z) : GO Z "put_more" 1 g_put_more := by
  obtain ⟨fd, F⟩ := fn_put_more T
  exact go_mk (gl_put_more T) F sc_put_more (fun _ _ _ _ _ _ us hl => match us, hl with | [_, _, _], _ => rfl) (fun cdv A outer s H E ok hr => (have hu := hr.units
    
    (s_one (s_asg (ks := []) (d_op o_add (d_getO ok hu (pv 0) (d_var (pv 1)) d_int ⟨rfl, rfl, rfl, rfl⟩) (d_var (pv 2))) (dg_sub ok hu (pv 0) (d_var (pv 1)))))))
theorem ok_divisor_of (T : TX Z) : GF Z "divisor_of" 1 g_divisor_of := by
  obtain ⟨fd, F⟩ := fn_divisor_of T
  exact gf_mk (gl_divisor_of T) F sc_divisor_of (fun _ _ _ _ _ _ us hl => match us, hl with | [_, _], _ => rfl) (fun cdv A outer s H E ok hr => (have hu := hr.units
    
    (s_one (s_ret (d_callF c_gcd rfl T.gcd (da_cons (d_var (pv 0)) (da_cons (d_var (pv 1)) da_nil)))))))
theorem body_Ratio_init (T : TX Z) {f : Addr} : Body Z ["self", "top", "bottom", "common"] "Ratio.__init__" (defScope (mth 20 0)) f 1 (defBody (mth 20 0)) m_Ratio_init :=
  fun cdv A outer s H E ok hr => (have hu := hr.units
    
    (s_cons (s_if (dt_not (dt_val (d_call ok (ok_is_integer T) (hr.mono (by decide : 1 ≤ 1)) rfl (da_cons (d_var (pv 1)) da_nil)))) (s_one s_never) s_nil)
      (s_cons (s_if (dt_w (dw_or (dt_not (dt_val (d_call ok (ok_is_integer T) (hr.mono (by decide : 1 ≤ 1)) rfl (da_cons (d_var (pv 2)) da_nil)))) (dw_or1 (dt_cmp (o_eq hu) (d_var (pv 2)) d_int (nomark _))))) (s_one s_never) s_nil)
      (s_cons (s_set (k := 3) sc_Ratio_init.nd rfl (Or.inl rfl) (d_call ok (ok_divisor_of T) (hr.mono (by decide : 1 ≤ 1)) rfl (da_cons (d_var (pv 1)) (da_cons (d_var (pv 2)) da_nil))))
      (s_cons (s_if (dt_cmp o_lt (d_var (pv 2)) d_int (nomark _)) (s_one (s_set (k := 3) sc_Ratio_init.nd rfl (Or.inl rfl) (d_op o_sub d_int (d_var (pv 3))))) s_nil)
      (s_cons (by refine s_fld (f := .top) ok T.cf (pv 0) ?_; exact (d_op o_div (d_var (pv 1)) (d_var (pv 3))))
      (s_one (by refine s_fld (f := .bottom) ok T.cf (pv 0) ?_; exact (d_op o_div (d_var (pv 2)) (d_var (pv 3)))))))))))
theorem mk_Ratio (T : TX Z) : GM Z "Ratio" .rat 2 g_Ratio_init [] := by
  obtain ⟨fd, F⟩ := fn_Ratio_init T
  exact gmd_mk 3 1 (gc_Ratio T) (T.mkc .rat) F sc_Ratio_init rfl (fun _ _ _ _ _ _ _ us its h1 h2 => match us, its, h1, h2 with | [_, _, _], [_], _, _ => ⟨_, rfl, rfl⟩) (fun F => .int 1) (body_Ratio_init T)
theorem mk_Ratio1 (T : TX Z) : GM Z "Ratio" .rat 2 g_Ratio_init [.int 1] := by
  obtain ⟨fd, F⟩ := fn_Ratio_init T
  exact gmd_mk 2 0 (gc_Ratio T) (T.mkc .rat) F sc_Ratio_init rfl (fun _ _ _ _ _ _ _ us its h1 h2 => match us, its, h1, h2 with | [_, _], [_], _, _ => ⟨_, rfl, rfl⟩) (fun F => .int 1) (body_Ratio_init T)
theorem ok_ratio_of (T : TX Z) : GF Z "ratio_of" 4 g_ratio_of := by
  obtain ⟨fd, F⟩ := fn_ratio_of T
  exact gf_mk (gl_ratio_of T) F sc_ratio_of (fun _ _ _ _ _ _ us hl => match us, hl with | [_], _ => rfl) (fun cdv A outer s H E ok hr => (have hu := hr.units
    
    (s_one (s_ret (d_ifExp (dt_val (d_isiC (cl := .rat) ok T.cf rfl (fr_isinstance T) (d_var (pv 0)) rfl (gc_Ratio T))) (d_var (pv 0)) (d_make (cl := .rat) (dd := [.int 1]) ok (mk_Ratio1 T) (fun _ => rfl) (hr.mono (by decide : 3 ≤ 3)) rfl (da_cons (d_var (pv 0)) da_nil)))))))
theorem ok_sums_told (T : TX Z) : GF Z "sums_told" 4 g_sums_told := by
  obtain ⟨fd, F⟩ := fn_sums_told T
  exact gf_mk (gl_sums_told T) F sc_sums_told (fun _ _ _ _ _ _ us hl => match us, hl with | [_, _], _ => rfl) (fun cdv A outer s H E ok hr => (have hu := hr.units
    
    (s_one (s_ret (d_comp (own := [("key", 2)]) (vs := [2]) rfl sc_sums_told.nd (di_list (d_callB (c_sorted ok hu) rfl (fr_sorted T) (by decide +kernel) (da_cons (d_callTy (c_list ok) rfl (fr_list T) (by decide +kernel) (da_cons (d_var (pv 1)) da_nil)) da_nil))) (blkOk_by (sc := defScope (st 49)) (N := ["bottom", "sums", "key"]) (by decide +kernel)) rfl (fun _ _ _ _ _ => (dg_name (pg_name (i := 2) sc_sums_told.nd rfl (Or.inl rfl)))) (fun _ _ _ _ _ => (dts_one (dt_cmp (o_ne hu) (d_ix (o_ix ok.blk hu) (d_var (pv 1)) (d_var (pv 2)) (fun _ _ => rfl)) d_int (nomark _)))) (fun _ _ _ _ _ => (d_tup (da_cons (d_var (pv 2)) (da_cons (d_make (cl := .rat) (dd := []) ok.blk (mk_Ratio T) (fun ds => by rw [List.append_nil]; rfl) (hr.mono (by decide : 3 ≤ 3)) rfl (da_cons (d_ix (o_ix ok.blk hu) (d_var (pv 1)) (d_var (pv 2)) (fun _ _ => rfl)) (da_cons (d_var (pv 0)) da_nil))) da_nil)))))))))
theorem ok_wholes (T : TX Z) : GF Z "wholes" 1 g_wholes := by
  obtain ⟨fd, F⟩ := fn_wholes T
  exact gf_mk (gl_wholes T) F sc_wholes (fun _ _ _ _ _ _ us hl => match us, hl with | [_], _ => rfl) (fun cdv A outer s H E ok hr => (have hu := hr.units
    
    (s_cons (s_set (k := 1) sc_wholes.nd rfl (Or.inr rfl) d_int)
      (s_cons (s_for (ks := [2]) PassesOwn.never rfl (di_list (d_var (pv 0))) (dg_name (pg_name (i := 2) sc_wholes.nd rfl (Or.inl rfl))) (s_one (s_set (k := 1) sc_wholes.nd rfl (Or.inr rfl) (d_callF c_lcm rfl T.lcm (da_cons (d_var (pv 1)) (da_cons (d_fld (f := .bottom) ok T.cf (d_var (pv 2)) rfl) da_nil))))))
      (s_one (s_ret (d_tup (da_cons (d_var (pv 1)) (da_cons (d_comp (own := [("ratio", 2)]) (vs := [2]) rfl sc_wholes.nd (di_list (d_var (pv 0))) (blkOk_by (sc := defScope (st 25)) (N := ["ratios", "bottom", "ratio"]) (by decide +kernel)) rfl (fun _ _ _ _ _ => (dg_name (pg_name (i := 2) sc_wholes.nd rfl (Or.inl rfl)))) (fun _ _ _ _ _ => dts_nil) (fun _ _ _ _ _ => (d_op o_mul (d_fld (f := .top) ok.blk T.cf (d_var (pv 2)) rfl) (d_op o_div (d_var (pv 1)) (d_fld (f := .bottom) ok.blk T.cf (d_var (pv 2)) rfl))))) da_nil)))))))))
theorem ok_parts_joined (T : TX Z) : GF Z "parts_joined" 5 g_parts_joined := by
  obtain ⟨fd, F⟩ := fn_parts_joined T
  exact gf_mk (gl_parts_joined T) F sc_parts_joined (fun _ _ _ _ _ _ us hl => match us, hl with | [_], _ => rfl) (fun cdv A outer s H E ok hr => (have hu := hr.units
    
    (s_cons (s_asg (ks := [2, 3]) (d_call ok (ok_wholes T) (hr.mono (by decide : 1 ≤ 4)) rfl (da_cons (d_comp (own := [("key", 5), ("number", 6)]) (vs := [5, 6]) rfl sc_parts_joined.nd (di_list (d_var (pv 0))) (blkOk_by (sc := defScope (st 50)) (N := ["parts", "sums", "bottom", "factors", "factor", "key", "number"]) (by decide +kernel)) rfl (fun _ _ _ _ _ => (dg_tup rfl (dgs_cons (dg_name (pg_name (i := 5) sc_parts_joined.nd rfl (Or.inl rfl))) (dgs_cons (dg_name (pg_name (i := 6) sc_parts_joined.nd rfl (Or.inl rfl))) dgs_nil)))) (fun _ _ _ _ _ => dts_nil) (fun _ _ _ _ _ => (d_call ok.blk (ok_ratio_of T) (hr.mono (by decide : 4 ≤ 4)) rfl (da_cons (d_var (pv 6)) da_nil)))) da_nil)) (dg_tup rfl (dgs_cons (dg_name (pg_name (i := 2) sc_parts_joined.nd rfl (Or.inl rfl))) (dgs_cons (dg_name (pg_name (i := 3) sc_parts_joined.nd rfl (Or.inl rfl))) dgs_nil))))
      (s_cons (s_new (k := 1) sc_parts_joined.nd rfl (Or.inl rfl) (n_dic ok))
      (s_cons (s_for (ks := [5, 6, 4]) PassesOwn.never rfl (di_zip rfl (fr_zip T) (d_var (pv 0)) (d_var (pv 3))) (dg_tup rfl (dgs_cons (dg_tup rfl (dgs_cons (dg_name (pg_name (i := 5) sc_parts_joined.nd rfl (Or.inl rfl))) (dgs_cons (dg_name (pg_name (i := 6) sc_parts_joined.nd rfl (Or.inl rfl))) dgs_nil))) (dgs_cons (dg_name (pg_name (i := 4) sc_parts_joined.nd rfl (Or.inl rfl))) dgs_nil))) (s_one (s_ex (d_callO ok (ok_put_more T) (hr.mono (by decide : 1 ≤ 4)) rfl (pv 1) (da_cons (d_var (pv 5)) (da_cons (d_var (pv 4)) da_nil))))))
      (s_one (s_ret (d_call ok (ok_sums_told T) (hr.mono (by decide : 4 ≤ 4)) rfl (da_cons (d_var (pv 2)) (da_cons (d_var (pv 1)) da_nil))))))))))
theorem ok_want_columns (T : TX Z) : GF Z "want_columns" 3 g_want_columns := by
  obtain ⟨fd, F⟩ := fn_want_columns T
  exact gf_mk (gl_want_columns T) F sc_want_columns (fun _ _ _ _ _ _ us hl => match us, hl with | [_], _ => rfl) (fun cdv A outer s H E ok hr => (have hu := hr.units
    
    (s_one (s_if (dt_w (dw_or (dt_not (dt_val (d_call ok (ok_is_count T) (hr.mono (by decide : 2 ≤ 2)) rfl (da_cons (d_var (pv 0)) da_nil)))) (dw_or1 (dt_cmp o_gt (d_var (pv 0)) (d_gl rfl (nm_MOST_COLUMNS T)) (nomark _))))) (s_one s_never) s_nil))))
theorem mk_Form (T : TX Z) : GM Z "Form" .frm 7 g_Form_init [] := by
  obtain ⟨fd, F⟩ := fn_Form_init T
  exact gm_mk (gc_Form T) (T.mkc .frm) F sc_Form_init (fun _ _ _ _ _ _ us hl => match us, hl with | [_, _, _], _ => rfl) (fun cdv A outer s H E ok hr => (have hu := hr.units
    
    (s_cons (s_ex (d_call ok (ok_want_columns T) (hr.mono (by decide : 3 ≤ 6)) rfl (da_cons (d_var (pv 1)) da_nil)))
      (s_cons (s_if (dt_w (dw_or (dt_not (dt_val (d_call ok (ok_is_list T) (hr.mono (by decide : 1 ≤ 6)) rfl (da_cons (d_var (pv 2)) da_nil)))) (dw_or (dt_cmp o_gt (d_callB c_len rfl (fr_len T) (by decide +kernel) (da_cons (d_var (pv 2)) da_nil)) (d_gl rfl (nm_MOST_PARTS T)) (nomark _)) (dw_or1 (dt_not (dt_val (d_callB (c_all rfl) rfl (fr_all T) (by decide +kernel) (da_cons (d_comp (own := [("one", 3)]) (vs := [3]) rfl sc_Form_init.nd (di_list (d_var (pv 2))) (blkOk_by (sc := defScope (mth 54 0)) (N := ["self", "columns", "parts", "one"]) (by decide +kernel)) rfl (fun _ _ _ _ _ => (dg_name (pg_name (i := 3) sc_Form_init.nd rfl (Or.inl rfl)))) (fun _ _ _ _ _ => dts_nil) (fun _ _ _ _ _ => (d_call ok.blk (ok_is_term_part T) (hr.mono (by decide : 6 ≤ 6)) rfl (da_cons (d_var (pv 1)) (da_cons (d_var (pv 3)) da_nil))))) da_nil)))))))) (s_one s_never) s_nil)
      (s_cons (by refine s_fld (f := .columns) ok T.cf (pv 0) ?_; exact (d_var (pv 1)))
      (s_one (by refine s_fld (f := .parts) ok T.cf (pv 0) ?_; exact (d_call ok (ok_parts_joined T) (hr.mono (by decide : 5 ≤ 6)) rfl (da_cons (d_var (pv 2)) da_nil)))))))))
theorem ok_told_pair (T : TX Z) : GF Z "told_pair" 2 g_told_pair := by
  obtain ⟨fd, F⟩ := fn_told_pair T
  exact gf_mk (gl_told_pair T) F sc_told_pair (fun _ _ _ _ _ _ us hl => match us, hl with | [_], _ => rfl) (fun cdv A outer s H E ok hr => (have hu := hr.units
    
    (s_cons (s_if (dt_val (d_isiC (cl := .rat) ok T.cf rfl (fr_isinstance T) (d_var (pv 0)) rfl (gc_Ratio T))) (s_one (s_ret (d_tup (da_cons (d_fld (f := .top) ok T.cf (d_var (pv 0)) rfl) (da_cons (d_fld (f := .bottom) ok T.cf (d_var (pv 0)) rfl) da_nil))))) s_nil)
      (s_cons (s_if (dt_not (dt_val (d_call ok (ok_is_integer T) (hr.mono (by decide : 1 ≤ 1)) rfl (da_cons (d_var (pv 0)) da_nil)))) (s_one s_never) s_nil)
      (s_one (s_ret (d_tup (da_cons (d_var (pv 0)) (da_cons d_int da_nil)))))))))
end
end Pd
end
section
set_option Elab.async false
set_option linter.all false
set_option maxRecDepth 100000
set_option maxHeartbeats 4000000
/-! PdD: printed by gen2.py. -/
namespace Pd
open PySem PySem.Spec PyProof.Rows L2

section
variable {Z : Wd}
theorem ok_Ratio_add (T : TX Z) : GR Z .Add 4 g_Ratio_add := by
  obtain ⟨fd, F⟩ := fn_Ratio_add T
  obtain ⟨h1, h2⟩ := T.sp "__add__" (List.mem_of_getElem? (i := 0) rfl)
  exact gr_mk (op := .Add) (by decide +kernel) (by decide +kernel) h1 h2 (T.spr "__radd__" (List.mem_of_getElem? (i := 0) rfl)) (T.spi "__add__" (List.mem_of_getElem? (i := 0) rfl)) (T.spi "__radd__" (List.mem_of_getElem? (i := 2) rfl)) F sc_Ratio_add (fun _ _ _ _ _ _ us hl => match us, hl with | [_, _], _ => rfl) (fun cdv A outer s H E ok hr => (have hu := hr.units
    
    (s_cons (s_asg (ks := [2, 3]) (d_call ok (ok_told_pair T) (hr.mono (by decide : 2 ≤ 3)) rfl (da_cons (d_var (pv 1)) da_nil)) (dg_tup rfl (dgs_cons (dg_name (pg_name (i := 2) sc_Ratio_add.nd rfl (Or.inl rfl))) (dgs_cons (dg_name (pg_name (i := 3) sc_Ratio_add.nd rfl (Or.inl rfl))) dgs_nil))))
      (s_one (s_ret (d_make (cl := .rat) (dd := []) ok (mk_Ratio T) (fun ds => by rw [List.append_nil]; rfl) (hr.mono (by decide : 3 ≤ 3)) rfl (da_cons (d_op o_add (d_op o_mul (d_fld (f := .top) ok T.cf (d_var (pv 0)) rfl) (d_var (pv 3))) (d_op o_mul (d_var (pv 2)) (d_fld (f := .bottom) ok T.cf (d_var (pv 0)) rfl))) (da_cons (d_op o_mul (d_fld (f := .bottom) ok T.cf (d_var (pv 0)) rfl) (d_var (pv 3))) da_nil))))))))
theorem ok_Ratio_eq (T : TX Z) : GS Z "__eq__" 1 g_Ratio_eq := by
  obtain ⟨fd, F⟩ := fn_Ratio_eq T
  obtain ⟨h1, h2⟩ := T.sp "__eq__" (List.mem_of_getElem? (i := 3) rfl)
  exact gs_mk h1 h2 F sc_Ratio_eq (fun _ _ _ _ _ _ us hl => match us, hl with | [_, _], _ => rfl) (fun cdv A outer s H E ok hr => (have hu := hr.units
    
    (s_cons (s_if (dt_not (dt_val (d_isiC (cl := .rat) ok T.cf rfl (fr_isinstance T) (d_var (pv 1)) rfl (gc_Ratio T)))) (s_one (s_ret d_bl)) s_nil)
      (s_one (s_ret (d_and (d_cmp (o_eq hu) (d_fld (f := .top) ok T.cf (d_var (pv 0)) rfl) (d_fld (f := .top) ok T.cf (d_var (pv 1)) rfl) (nomark _)) (d_one (d_cmp (o_eq hu) (d_fld (f := .bottom) ok T.cf (d_var (pv 0)) rfl) (d_fld (f := .bottom) ok T.cf (d_var (pv 1)) rfl) (nomark _)))))))))
theorem ok_Ratio_mul (T : TX Z) : GR Z .Mult 4 g_Ratio_mul := by
  obtain ⟨fd, F⟩ := fn_Ratio_mul T
  obtain ⟨h1, h2⟩ := T.sp "__mul__" (List.mem_of_getElem? (i := 1) rfl)
  exact gr_mk (op := .Mult) (by decide +kernel) (by decide +kernel) h1 h2 (T.spr "__rmul__" (List.mem_of_getElem? (i := 1) rfl)) (T.spi "__mul__" (List.mem_of_getElem? (i := 1) rfl)) (T.spi "__rmul__" (List.mem_of_getElem? (i := 3) rfl)) F sc_Ratio_mul (fun _ _ _ _ _ _ us hl => match us, hl with | [_, _], _ => rfl) (fun cdv A outer s H E ok hr => (have hu := hr.units
    
    (s_cons (s_asg (ks := [2, 3]) (d_call ok (ok_told_pair T) (hr.mono (by decide : 2 ≤ 3)) rfl (da_cons (d_var (pv 1)) da_nil)) (dg_tup rfl (dgs_cons (dg_name (pg_name (i := 2) sc_Ratio_mul.nd rfl (Or.inl rfl))) (dgs_cons (dg_name (pg_name (i := 3) sc_Ratio_mul.nd rfl (Or.inl rfl))) dgs_nil))))
      (s_one (s_ret (d_make (cl := .rat) (dd := []) ok (mk_Ratio T) (fun ds => by rw [List.append_nil]; rfl) (hr.mono (by decide : 3 ≤ 3)) rfl (da_cons (d_op o_mul (d_fld (f := .top) ok T.cf (d_var (pv 0)) rfl) (d_var (pv 2))) (da_cons (d_op o_mul (d_fld (f := .bottom) ok T.cf (d_var (pv 0)) rfl) (d_var (pv 3))) da_nil))))))))
theorem ok_Ratio_neg (T : TX Z) : GS Z "__neg__" 4 g_Ratio_neg := by
  obtain ⟨fd, F⟩ := fn_Ratio_neg T
  obtain ⟨h1, h2⟩ := T.sp "__neg__" (List.mem_of_getElem? (i := 2) rfl)
  exact gs_mk h1 h2 F sc_Ratio_neg (fun _ _ _ _ _ _ us hl => match us, hl with | [_], _ => rfl) (fun cdv A outer s H E ok hr => (have hu := hr.units
    
    (s_one (s_ret (d_make (cl := .rat) (dd := []) ok (mk_Ratio T) (fun ds => by rw [List.append_nil]; rfl) (hr.mono (by decide : 3 ≤ 3)) rfl (da_cons (d_op o_sub d_int (d_fld (f := .top) ok T.cf (d_var (pv 0)) rfl)) (da_cons (d_fld (f := .bottom) ok T.cf (d_var (pv 0)) rfl) da_nil)))))))
theorem ok_Ratio_is_whole (T : TX Z) : GP Z "is_whole" .rat 1 g_Ratio_is_whole := by
  obtain ⟨fd, F⟩ := fn_Ratio_is_whole T
  obtain ⟨pp, hp⟩ := T.prop (.rat, "is_whole") (List.mem_of_getElem? (i := 2) rfl)
  exact gp_mk hp F sc_Ratio_is_whole (fun _ _ _ _ _ _ us hl => match us, hl with | [_], _ => rfl) (fun cdv A outer s H E ok hr => (have hu := hr.units
    
    (s_one (s_ret (d_cmp (o_eq hu) (d_fld (f := .bottom) ok T.cf (d_var (pv 0)) rfl) d_int (nomark _))))))
theorem ok_Ratio_sign (T : TX Z) : GP Z "sign" .rat 1 g_Ratio_sign := by
  obtain ⟨fd, F⟩ := fn_Ratio_sign T
  obtain ⟨pp, hp⟩ := T.prop (.rat, "sign") (List.mem_of_getElem? (i := 0) rfl)
  exact gp_mk hp F sc_Ratio_sign (fun _ _ _ _ _ _ us hl => match us, hl with | [_], _ => rfl) (fun cdv A outer s H E ok hr => (have hu := hr.units
    
    (s_one (s_ret (d_op o_sub (d_callTy c_int rfl (fr_int T) (by decide +kernel) (da_cons (d_cmp o_gt (d_fld (f := .top) ok T.cf (d_var (pv 0)) rfl) d_int (nomark _)) da_nil)) (d_callTy c_int rfl (fr_int T) (by decide +kernel) (da_cons (d_cmp o_lt (d_fld (f := .top) ok T.cf (d_var (pv 0)) rfl) d_int (nomark _)) da_nil)))))))
theorem ok_Ratio_top (T : TX Z) : GP Z "top" .rat 1 g_Ratio_top := by
  obtain ⟨fd, F⟩ := fn_Ratio_top T
  obtain ⟨pp, hp⟩ := T.prop (.rat, "top") (List.mem_of_getElem? (i := 1) rfl)
  exact gp_mk hp F sc_Ratio_top (fun _ _ _ _ _ _ us hl => match us, hl with | [_], _ => rfl) (fun cdv A outer s H E ok hr => (have hu := hr.units
    
    (s_one (s_ret (d_fld (f := .top) ok T.cf (d_var (pv 0)) rfl)))))
theorem ok_is_row (T : TX Z) : GF Z "is_row" 3 g_is_row := by
  obtain ⟨fd, F⟩ := fn_is_row T
  exact gf_mk (gl_is_row T) F sc_is_row (fun _ _ _ _ _ _ us hl => match us, hl with | [_, _], _ => rfl) (fun cdv A outer s H E ok hr => (have hu := hr.units
    
    (s_one (s_ret (d_and (d_call ok (ok_is_list T) (hr.mono (by decide : 1 ≤ 2)) rfl (da_cons (d_var (pv 1)) da_nil)) (d_and (d_cmp (o_eq hu) (d_callB c_len rfl (fr_len T) (by decide +kernel) (da_cons (d_var (pv 1)) da_nil)) (d_var (pv 0)) (nomark _)) (d_one (d_callB (c_all rfl) rfl (fr_all T) (by decide +kernel) (da_cons (d_comp (own := [("number", 2)]) (vs := [2]) rfl sc_is_row.nd (di_list (d_var (pv 1))) (blkOk_by (sc := defScope (st 31)) (N := ["columns", "value", "number"]) (by decide +kernel)) rfl (fun _ _ _ _ _ => (dg_name (pg_name (i := 2) sc_is_row.nd rfl (Or.inl rfl)))) (fun _ _ _ _ _ => dts_nil) (fun _ _ _ _ _ => (d_call ok.blk (ok_is_number T) (hr.mono (by decide : 2 ≤ 2)) rfl (da_cons (d_var (pv 2)) da_nil)))) da_nil)))))))))
theorem ok_told_row (T : TX Z) : GF Z "told_row" 5 g_told_row := by
  obtain ⟨fd, F⟩ := fn_told_row T
  exact gf_mk (gl_told_row T) F sc_told_row (fun _ _ _ _ _ _ us hl => match us, hl with | [_], _ => rfl) (fun cdv A outer s H E ok hr => (have hu := hr.units
    
    (s_one (s_ret (d_callTy c_tuple rfl (fr_tuple T) (by decide +kernel) (da_cons (d_comp (own := [("number", 1)]) (vs := [1]) rfl sc_told_row.nd (di_list (d_var (pv 0))) (blkOk_by (sc := defScope (st 32)) (N := ["row", "number"]) (by decide +kernel)) rfl (fun _ _ _ _ _ => (dg_name (pg_name (i := 1) sc_told_row.nd rfl (Or.inl rfl)))) (fun _ _ _ _ _ => dts_nil) (fun _ _ _ _ _ => (d_call ok.blk (ok_ratio_of T) (hr.mono (by decide : 4 ≤ 4)) rfl (da_cons (d_var (pv 1)) da_nil)))) da_nil))))))
theorem mk_Table (T : TX Z) : GM Z "Table" .tab 6 g_Table_init [] := by
  obtain ⟨fd, F⟩ := fn_Table_init T
  exact gm_mk (gc_Table T) (T.mkc .tab) F sc_Table_init (fun _ _ _ _ _ _ us hl => match us, hl with | [_, _, _], _ => rfl) (fun cdv A outer s H E ok hr => (have hu := hr.units
    
    (s_cons (s_ex (d_call ok (ok_want_columns T) (hr.mono (by decide : 3 ≤ 5)) rfl (da_cons (d_var (pv 1)) da_nil)))
      (s_cons (s_if (dt_w (dw_or (dt_not (dt_val (d_call ok (ok_is_list T) (hr.mono (by decide : 1 ≤ 5)) rfl (da_cons (d_var (pv 2)) da_nil)))) (dw_or (dt_cmp o_gt (d_callB c_len rfl (fr_len T) (by decide +kernel) (da_cons (d_var (pv 2)) da_nil)) (d_gl rfl (nm_MOST_ROWS T)) (nomark _)) (dw_or1 (dt_not (dt_val (d_callB (c_all rfl) rfl (fr_all T) (by decide +kernel) (da_cons (d_comp (own := [("row", 3)]) (vs := [3]) rfl sc_Table_init.nd (di_list (d_var (pv 2))) (blkOk_by (sc := defScope (mth 33 0)) (N := ["self", "columns", "rows", "row"]) (by decide +kernel)) rfl (fun _ _ _ _ _ => (dg_name (pg_name (i := 3) sc_Table_init.nd rfl (Or.inl rfl)))) (fun _ _ _ _ _ => dts_nil) (fun _ _ _ _ _ => (d_call ok.blk (ok_is_row T) (hr.mono (by decide : 3 ≤ 5)) rfl (da_cons (d_var (pv 1)) (da_cons (d_var (pv 3)) da_nil))))) da_nil)))))))) (s_one s_never) s_nil)
      (s_cons (by refine s_fld (f := .columns) ok T.cf (pv 0) ?_; exact (d_var (pv 1)))
      (s_one (by refine s_fld (f := .rows) ok T.cf (pv 0) ?_; exact (d_callTy c_tuple rfl (fr_tuple T) (by decide +kernel) (da_cons (d_comp (own := [("row", 3)]) (vs := [3]) rfl sc_Table_init.nd (di_list (d_var (pv 2))) (blkOk_by (sc := defScope (mth 33 0)) (N := ["self", "columns", "rows", "row"]) (by decide +kernel)) rfl (fun _ _ _ _ _ => (dg_name (pg_name (i := 3) sc_Table_init.nd rfl (Or.inl rfl)))) (fun _ _ _ _ _ => dts_nil) (fun _ _ _ _ _ => (d_call ok.blk (ok_told_row T) (hr.mono (by decide : 5 ≤ 5)) rfl (da_cons (d_var (pv 3)) da_nil)))) da_nil)))))))))
theorem ok_Table_columns (T : TX Z) : GP Z "columns" .tab 1 g_Table_columns := by
  obtain ⟨fd, F⟩ := fn_Table_columns T
  obtain ⟨pp, hp⟩ := T.prop (.tab, "columns") (List.mem_of_getElem? (i := 3) rfl)
  exact gp_mk hp F sc_Table_columns (fun _ _ _ _ _ _ us hl => match us, hl with | [_], _ => rfl) (fun cdv A outer s H E ok hr => (have hu := hr.units
    
    (s_one (s_ret (d_fld (f := .columns) ok T.cf (d_var (pv 0)) rfl)))))
theorem ok_Table_height (T : TX Z) : GP Z "height" .tab 1 g_Table_height := by
  obtain ⟨fd, F⟩ := fn_Table_height T
  obtain ⟨pp, hp⟩ := T.prop (.tab, "height") (List.mem_of_getElem? (i := 4) rfl)
  exact gp_mk hp F sc_Table_height (fun _ _ _ _ _ _ us hl => match us, hl with | [_], _ => rfl) (fun cdv A outer s H E ok hr => (have hu := hr.units
    
    (s_one (s_ret (d_callB c_len rfl (fr_len T) (by decide +kernel) (da_cons (d_fld (f := .rows) ok T.cf (d_var (pv 0)) rfl) da_nil))))))
theorem ok_Table_rows (T : TX Z) : GT Z "rows" .tab 1 g_Table_rows := by
  obtain ⟨fd, F⟩ := fn_Table_rows T
  exact gt_mk T.rows (by decide) F sc_Table_rows (fun _ _ _ _ _ _ us hl => match us, hl with | [_], _ => rfl) (fun cdv A outer s H E ok hr => (have hu := hr.units
    
    (s_one (s_ret (d_comp (own := [("row", 1)]) (vs := [1]) rfl sc_Table_rows.nd (di_tup (d_fld (f := .rows) ok T.cf (d_var (pv 0)) rfl)) (blkOk_by (sc := defScope (mth 33 3)) (N := ["self", "row"]) (by decide +kernel)) rfl (fun _ _ _ _ _ => (dg_name (pg_name (i := 1) sc_Table_rows.nd rfl (Or.inl rfl)))) (fun _ _ _ _ _ => dts_nil) (fun _ _ _ _ _ => (d_callTy (c_list ok.blk) rfl (fr_list T) (by decide +kernel) (da_cons (d_var (pv 1)) da_nil))))))))
end
end Pd
end
section
set_option Elab.async false
set_option linter.all false
set_option maxRecDepth 100000
set_option maxHeartbeats 4000000
/-! PdD: printed by gen2.py. -/
namespace Pd
open PySem PySem.Spec PyProof.Rows L2

section
variable {Z : Wd}
theorem ok__law_arranged (T : TX Z) : ∀ n, GF Z "_law_arranged" (2 + n) (g__law_arranged n) := by
  intro n
  induction n with
  | zero =>
    obtain ⟨fd, F⟩ := fn__law_arranged T
    exact gf_none (ps := ["_law_letters"]) (gl__law_arranged T) F (fun _ _ _ _ _ _ us hl => match us, hl with | [_], _ => rfl)
  | succ n ih =>
    obtain ⟨fd, F⟩ := fn__law_arranged T
    exact gf_mk (m := m__law_arranged (g__law_arranged n)) (gl__law_arranged T) F sc__law_arranged (fun _ _ _ _ _ _ us hl => match us, hl with | [_], _ => rfl) (fun cdv A outer s H E ok hr => (have hu := hr.units
    have hu5 := hu5_of hr
    (s_cons (s_if (dt_cmp (o_eq hu) (d_var (pv 0)) (d_lst da_nil) (nomark _)) (s_one (s_ret (d_lst (da_cons (d_tup da_nil) da_nil)))) s_nil)
      (s_cons (s_new (k := 1) sc__law_arranged.nd rfl (Or.inl rfl) (n_lst da_nil))
      (s_cons (s_for (ks := [2, 3]) PassesOwn.never rfl (di_enum rfl (fr_enumerate T) (d_var (pv 0))) (dg_tup rfl (dgs_cons (dg_name (pg_name (i := 2) sc__law_arranged.nd rfl (Or.inl rfl))) (dgs_cons (dg_name (pg_name (i := 3) sc__law_arranged.nd rfl (Or.inr rfl))) dgs_nil))) (s_one (s_if (dt_cmp (o_notIn hu5) (d_var (pv 3)) (d_cut (d_var (pv 0)) dp_none (dp_some (d_var (pv 2)))) rfl) (s_one (s_ext ok (pv 1) (d_comp (own := [("_law_rest", 4)]) (vs := [4]) rfl sc__law_arranged.nd (di_list (d_call ok ih hr rfl (da_cons (d_op (o_of_n n_cat) (d_cut (d_var (pv 0)) dp_none (dp_some (d_var (pv 2)))) (d_cut (d_var (pv 0)) (dp_some (d_op o_add (d_var (pv 2)) d_int)) dp_none)) da_nil))) (blkOk_by (sc := defScope (st 83)) (N := ["_law_letters", "_law_found", "_law_at_here", "_law_letter_here", "_law_rest"]) (by decide +kernel)) rfl (fun _ _ _ _ _ => (dg_name (pg_name (i := 4) sc__law_arranged.nd rfl (Or.inl rfl)))) (fun _ _ _ _ _ => dts_nil) (fun _ _ _ _ _ => (d_op o_add (d_tup (da_cons (d_var (pv 3)) da_nil)) (d_var (pv 4))))))) s_nil)))
      (s_one (s_ret (d_var (pv 1)))))))))
theorem ok__law_at (T : TX Z) : GF Z "_law_at" 1 g__law_at := by
  obtain ⟨fd, F⟩ := fn__law_at T
  exact gf_mk (gl__law_at T) F sc__law_at (fun _ _ _ _ _ _ us hl => match us, hl with | [_, _], _ => rfl) (fun cdv A outer s H E ok hr => (have hu := hr.units
    
    (s_cons (s_set (k := 2) sc__law_at.nd rfl (Or.inl rfl) d_int)
      (s_cons (s_for (ks := [3, 4]) PassesOwn.never rfl (di_zip rfl (fr_zip T) (d_var (pv 0)) (d_var (pv 1))) (dg_tup rfl (dgs_cons (dg_name (pg_name (i := 3) sc__law_at.nd rfl (Or.inl rfl))) (dgs_cons (dg_name (pg_name (i := 4) sc__law_at.nd rfl (Or.inl rfl))) dgs_nil))) (s_one (s_for (ks := [5]) PassesOwn.never rfl (di_range rfl (fr_range T) (da_cons (d_var (pv 3)) da_nil)) (dg_name (pg_name (i := 5) sc__law_at.nd rfl (Or.inl rfl))) (s_one (s_set (k := 2) sc__law_at.nd rfl (Or.inl rfl) (d_op o_mul (d_var (pv 2)) (d_var (pv 4))))))))
      (s_one (s_ret (d_var (pv 2))))))))
theorem ok__law_draw (T : TX Z) : GO Z "_law_draw" 1 g__law_draw := by
  obtain ⟨fd, F⟩ := fn__law_draw T
  exact go_mk (gl__law_draw T) F sc__law_draw (fun _ _ _ _ _ _ us hl => match us, hl with | [_, _], _ => rfl) (fun cdv A outer s H E ok hr => (have hu := hr.units
    
    (s_cons (s_if (dt_cmp o_gt (d_ixO ok hu (pv 0) d_int (fun _ _ => rfl)) d_int (nomark _)) (s_cons (s_asg (ks := [2]) (d_callB c_divmod rfl (fr_divmod T) (by decide +kernel) (da_cons (d_ixO ok hu (pv 0) d_int (fun _ _ => rfl)) (da_cons (d_var (pv 1)) da_nil))) (dg_tup rfl (dgs_cons (dg_sub ok hu (pv 0) d_int) (dgs_cons (dg_name (pg_name (i := 2) sc__law_draw.nd rfl (Or.inl rfl))) dgs_nil))))
      (s_one (s_ret (d_var (pv 2))))) s_nil)
      (s_cons (s_asg (ks := []) (d_op o_mod (d_callTy c_int rfl (fr_int T) (by decide +kernel) (da_cons (d_op o_add (d_op o_mul (d_ixO ok hu (pv 0) d_int (fun _ _ => rfl)) d_int) d_int) da_nil)) d_int) (dg_sub ok hu (pv 0) d_int))
      (s_one (s_ret (d_op o_mod (d_callTy c_int rfl (fr_int T) (by decide +kernel) (da_cons (d_op o_div (d_op o_mod (d_callTy c_int rfl (fr_int T) (by decide +kernel) (da_cons (d_op o_mul (d_ixO ok hu (pv 0) d_int (fun _ _ => rfl)) (d_ixO ok hu (pv 0) d_int (fun _ _ => rfl))) da_nil)) d_int) d_int) da_nil)) (d_var (pv 1)))))))))
theorem ok__law_letter (T : TX Z) : GO Z "_law_letter" 2 g__law_letter := by
  obtain ⟨fd, F⟩ := fn__law_letter T
  exact go_mk (gl__law_letter T) F sc__law_letter (fun _ _ _ _ _ _ us hl => match us, hl with | [_, _], _ => rfl) (fun cdv A outer s H E ok hr => (have hu := hr.units
    
    (s_one (s_ret (d_callTy c_tuple rfl (fr_tuple T) (by decide +kernel) (da_cons (d_comp (own := [("_law_column", 2)]) (vs := [2]) rfl sc__law_letter.nd (di_range rfl (fr_range T) (da_cons (d_var (pv 1)) da_nil)) (blkOk_by (sc := defScope (st 80)) (N := ["_law_pot_here", "_law_columns", "_law_column"]) (by decide +kernel)) rfl (fun _ _ _ _ _ => (dg_name (pg_name (i := 2) sc__law_letter.nd rfl (Or.inl rfl)))) (fun _ _ _ _ _ => dts_nil) (fun _ _ _ _ _ => (d_callO ok.blk (ok__law_draw T) (hr.mono (by decide : 1 ≤ 1)) rfl (pv 0) (da_cons d_int da_nil)))) da_nil))))))
theorem ok__law_pick (T : TX Z) : GO Z "_law_pick" 2 g__law_pick := by
  obtain ⟨fd, F⟩ := fn__law_pick T
  exact go_mk (gl__law_pick T) F sc__law_pick (fun _ _ _ _ _ _ us hl => match us, hl with | [_, _], _ => rfl) (fun cdv A outer s H E ok hr => (have hu := hr.units
    
    (s_one (s_ret (d_ix (o_ix ok hu) (d_var (pv 1)) (d_callO ok (ok__law_draw T) (hr.mono (by decide : 1 ≤ 1)) rfl (pv 0) (da_cons (d_callB c_len rfl (fr_len T) (by decide +kernel) (da_cons (d_var (pv 1)) da_nil)) da_nil)) (fun _ _ => rfl))))))
theorem ok__law_ways (T : TX Z) : GF Z "_law_ways" 9 g__law_ways := by
  obtain ⟨fd, F⟩ := fn__law_ways T
  exact gf_mk (gl__law_ways T) F sc__law_ways (fun _ _ _ _ _ _ us hl => match us, hl with | [_], _ => rfl) (fun cdv A outer s H E ok hr => (have hu := hr.units
    
    (s_cons (s_new (k := 1) sc__law_ways.nd rfl (Or.inl rfl) (n_lst da_nil))
      (s_cons (s_for (ks := [2]) PassesOwn.never rfl (di_list (d_call ok (ok__law_arranged T 6) (hr.mono (by decide : 8 ≤ 8)) rfl (da_cons (d_var (pv 0)) da_nil))) (dg_name (pg_name (i := 2) sc__law_ways.nd rfl (Or.inr rfl))) (s_one (s_ext ok (pv 1) (d_comp (own := [("_law_at_here", 3)]) (vs := [3]) rfl sc__law_ways.nd (di_range rfl (fr_range T) (da_cons (d_op o_add (d_callB c_len rfl (fr_len T) (by decide +kernel) (da_cons (d_var (pv 2)) da_nil)) d_int) da_nil)) (blkOk_by (sc := defScope (st 85)) (N := ["_law_letters", "_law_found", "_law_word", "_law_at_here"]) (by decide +kernel)) rfl (fun _ _ _ _ _ => (dg_name (pg_name (i := 3) sc__law_ways.nd rfl (Or.inl rfl)))) (fun _ _ _ _ _ => dts_nil) (fun _ _ _ _ _ => (d_tup (da_cons (d_cut (d_var (pv 2)) dp_none (dp_some (d_var (pv 3)))) (da_cons (d_cut (d_var (pv 2)) (dp_some (d_var (pv 3))) dp_none) da_nil))))))))
      (s_one (s_ret (d_var (pv 1))))))))
end
end Pd
end
section
set_option Elab.async false
set_option linter.all false
set_option maxRecDepth 100000
set_option maxHeartbeats 4000000
/-! PdD: printed by gen2.py. -/
namespace Pd
open PySem PySem.Spec PyProof.Rows L2

section
variable {Z : Wd}
theorem ok__law_form (T : TX Z) : GO Z "_law_form" 10 g__law_form := by
  obtain ⟨fd, F⟩ := fn__law_form T
  exact go_mk (gl__law_form T) F sc__law_form (fun _ _ _ _ _ _ us hl => match us, hl with | [_, _, _], _ => rfl) (fun cdv A outer s H E ok hr => (have hu := hr.units
    
    (s_cons (s_new (k := 3) sc__law_form.nd rfl (Or.inr rfl) (n_dic ok))
      (s_cons (s_for (ks := [4]) PassesOwn.never rfl (di_range rfl (fr_range T) (da_cons (d_ix (o_ix ok hu) (d_lst (da_cons d_int (da_cons d_int (da_cons d_int (da_cons d_int (da_cons d_int da_nil)))))) (d_callO ok (ok__law_draw T) (hr.mono (by decide : 1 ≤ 9)) rfl (pv 0) (da_cons d_int da_nil)) (fun _ _ => rfl)) da_nil)) (dg_name (pg_name (i := 4) sc__law_form.nd rfl (Or.inl rfl))) (s_cons (s_par (i := 6) (j := 7) ok rfl rfl (by decide) rfl rfl (da_cons (d_callO ok (ok__law_letter T) (hr.mono (by decide : 2 ≤ 9)) rfl (pv 0) (da_cons (d_var (pv 1)) da_nil)) (da_cons (d_op o_sub (d_callO ok (ok__law_draw T) (hr.mono (by decide : 1 ≤ 9)) rfl (pv 0) (da_cons d_int da_nil)) d_int) da_nil)) rfl)
      (s_cons (s_set (k := 5) sc__law_form.nd rfl (Or.inl rfl) (d_call ok (ok__law_ways T) (hr.mono (by decide : 9 ≤ 9)) rfl (da_cons (d_comp (own := [("_law_spot", 11)]) (vs := [11]) rfl sc__law_form.nd (di_range rfl (fr_range T) (da_cons (d_callO ok (ok__law_draw T) (hr.mono (by decide : 1 ≤ 9)) rfl (pv 0) (da_cons (d_op o_add (d_var (pv 2)) d_int) da_nil)) da_nil)) (blkOk_by (sc := defScope (st 86)) (N := ["_law_pot_here", "_law_columns", "_law_most", "_law_found", "_law_turn", "_law_some", "_law_own", "_law_factor", "_law_left", "_law_right_here", "_law_term", "_law_spot"]) (by decide +kernel)) rfl (fun _ _ _ _ _ => (dg_name (pg_name (i := 11) sc__law_form.nd rfl (Or.inl rfl)))) (fun _ _ _ _ _ => dts_nil) (fun _ _ _ _ _ => (d_callO ok.blk (ok__law_letter T) (hr.mono (by decide : 2 ≤ 9)) rfl (pv 0) (da_cons (d_var (pv 1)) da_nil)))) da_nil)))
      (s_cons (s_if (dt_cmp (o_eq hu) (d_callO ok (ok__law_draw T) (hr.mono (by decide : 1 ≤ 9)) rfl (pv 0) (da_cons d_int da_nil)) d_int (nomark _)) (s_one (s_set (k := 5) sc__law_form.nd rfl (Or.inl rfl) (d_lst (da_cons (d_callO ok (ok__law_pick T) (hr.mono (by decide : 2 ≤ 9)) rfl (pv 0) (da_cons (d_var (pv 5)) da_nil)) da_nil)))) s_nil)
      (s_one (s_for (ks := [8, 9]) PassesOwn.never rfl (di_list (d_var (pv 5))) (dg_tup rfl (dgs_cons (dg_name (pg_name (i := 8) sc__law_form.nd rfl (Or.inl rfl))) (dgs_cons (dg_name (pg_name (i := 9) sc__law_form.nd rfl (Or.inl rfl))) dgs_nil))) (s_one (s_asg (ks := []) (d_op o_add (d_getO ok hu (pv 3) (d_tup (da_cons (d_var (pv 8)) (da_cons (d_var (pv 6)) (da_cons (d_var (pv 9)) da_nil)))) d_int ⟨rfl, rfl, rfl, rfl⟩) (d_var (pv 7))) (dg_sub ok hu (pv 3) (d_tup (da_cons (d_var (pv 8)) (da_cons (d_var (pv 6)) (da_cons (d_var (pv 9)) da_nil)))))))))))))
      (s_one (s_ret (d_callTy (c_dict ok hu) rfl (fr_dict T) (by decide +kernel) (da_cons (d_comp (own := [("_law_term", 10)]) (vs := [10]) rfl sc__law_form.nd (di_list (d_callB (c_sorted ok hu) rfl (fr_sorted T) (by decide +kernel) (da_cons (d_var (pv 3)) da_nil))) (blkOk_by (sc := defScope (st 86)) (N := ["_law_pot_here", "_law_columns", "_law_most", "_law_found", "_law_turn", "_law_some", "_law_own", "_law_factor", "_law_left", "_law_right_here", "_law_term", "_law_spot"]) (by decide +kernel)) rfl (fun _ _ _ _ _ => (dg_name (pg_name (i := 10) sc__law_form.nd rfl (Or.inl rfl)))) (fun _ _ _ _ _ => (dts_one (dt_cmp (o_ne hu) (d_ix (o_ix ok.blk hu) (d_var (pv 3)) (d_var (pv 10)) (fun _ _ => rfl)) d_int (nomark _)))) (fun _ _ _ _ _ => (d_tup (da_cons (d_var (pv 10)) (da_cons (d_ix (o_ix ok.blk hu) (d_var (pv 3)) (d_var (pv 10)) (fun _ _ => rfl)) da_nil))))) da_nil))))))))
theorem ok__law_held (T : TX Z) : GF Z "_law_held" 10 g__law_held := by
  obtain ⟨fd, F⟩ := fn__law_held T
  exact gf_mk (gl__law_held T) F sc__law_held (fun _ _ _ _ _ _ us hl => match us, hl with | [_], _ => rfl) (fun cdv A outer s H E ok hr => (have hu := hr.units
    
    (s_cons (s_new (k := 1) sc__law_held.nd rfl (Or.inl rfl) (n_lst da_nil))
      (s_cons (s_for (ks := [2, 3, 4]) PassesOwn.never rfl (di_dic ok (d_var (pv 0))) (dg_tup rfl (dgs_cons (dg_name (pg_name (i := 2) sc__law_held.nd rfl (Or.inl rfl))) (dgs_cons (dg_name (pg_name (i := 3) sc__law_held.nd rfl (Or.inr rfl))) (dgs_cons (dg_name (pg_name (i := 4) sc__law_held.nd rfl (Or.inl rfl))) dgs_nil)))) (s_cons (s_setLc (k := 5) (own := [("_law_one", 6), ("_law_other", 7)]) (vs := [6, 7]) rfl sc__law_held.nd rfl rfl (sw_true rfl rfl rfl (by decide +kernel)) (di_list (d_call ok (ok__law_ways T) (hr.mono (by decide : 9 ≤ 9)) rfl (da_cons (d_callB (c_sorted ok hu) rfl (fr_sorted T) (by decide +kernel) (da_cons (d_op o_add (d_var (pv 2)) (d_var (pv 4))) da_nil)) da_nil))) (blkOk_by (sc := defScope (st 88)) (N := ["_law_parts", "_law_found", "_law_left", "_law_own", "_law_right_here", "_law_some", "_law_one", "_law_other"]) (by decide +kernel)) rfl (fun _ _ _ _ _ => (dg_tup rfl (dgs_cons (dg_name (pg_name (i := 6) sc__law_held.nd rfl (Or.inl rfl))) (dgs_cons (dg_name (pg_name (i := 7) sc__law_held.nd rfl (Or.inl rfl))) dgs_nil)))) (fun _ _ _ _ _ => dts_nil) (fun _ _ _ _ _ => (d_get ok.blk hu (d_var (pv 0)) (d_tup (da_cons (d_var (pv 6)) (da_cons (d_var (pv 3)) (da_cons (d_var (pv 7)) da_nil)))) d_int ⟨rfl, rfl, rfl, rfl⟩)))
      (s_one (s_if (dt_cmp o_gt (d_lenSet ok rfl (fr_len T) rfl (fr_set T) (d_var (pv 5))) d_int (nomark _)) (s_one (s_app ok (pv 1) (d_op o_add (d_op o_add (d_callB c_len rfl (fr_len T) (by decide +kernel) (da_cons (d_var (pv 2)) da_nil)) (d_callB c_len rfl (fr_len T) (by decide +kernel) (da_cons (d_var (pv 4)) da_nil))) d_int))) s_nil))))
      (s_one (s_ret (d_callB (c_sorted ok hu) rfl (fr_sorted T) (by decide +kernel) (da_cons (d_var (pv 1)) da_nil))))))))
theorem ok__law_moved (T : TX Z) : GF Z "_law_moved" 1 g__law_moved := by
  obtain ⟨fd, F⟩ := fn__law_moved T
  exact gf_mk (gl__law_moved T) F sc__law_moved (fun _ _ _ _ _ _ us hl => match us, hl with | [_, _], _ => rfl) (fun cdv A outer s H E ok hr => (have hu := hr.units
    
    (s_cons (s_if (dt_cmp (o_eq hu) (d_var (pv 0)) (d_var (pv 1)) (nomark _)) (s_one (s_ret (d_op o_add (d_var (pv 1)) d_int))) s_nil)
      (s_one (s_ret (d_ifExp (dt_cmp (o_eq hu) (d_var (pv 0)) (d_op o_add (d_var (pv 1)) d_int) (nomark _)) (d_var (pv 1)) (d_var (pv 0))))))))
theorem ok__law_plain (T : TX Z) : GF Z "_law_plain" 3 g__law_plain := by
  obtain ⟨fd, F⟩ := fn__law_plain T
  exact gf_mk (gl__law_plain T) F sc__law_plain (fun _ _ _ _ _ _ us hl => match us, hl with | [_], _ => rfl) (fun cdv A outer s H E ok hr => (have hu := hr.units
    
    (s_cons (s_new (k := 1) sc__law_plain.nd rfl (Or.inl rfl) (n_lst da_nil))
      (s_cons (s_for (ks := [2]) PassesOwn.never rfl (di_list (d_var (pv 0))) (dg_name (pg_name (i := 2) sc__law_plain.nd rfl (Or.inl rfl))) (s_one (s_app ok (pv 1) (d_comp (own := [("_law_number", 3)]) (vs := [3]) rfl sc__law_plain.nd (di_list (d_var (pv 2))) (blkOk_by (sc := defScope (st 89)) (N := ["_law_rows_here", "_law_found", "_law_row", "_law_number"]) (by decide +kernel)) rfl (fun _ _ _ _ _ => (dg_name (pg_name (i := 3) sc__law_plain.nd rfl (Or.inl rfl)))) (fun _ _ _ _ _ => dts_nil) (fun _ _ _ _ _ => (d_ifExp (dt_val (d_prop ok.blk T.cf (ok_Ratio_is_whole T) (hr.mono (by decide : 2 ≤ 2)) (d_var (pv 3)) rfl)) (d_prop ok.blk T.cf (ok_Ratio_top T) (hr.mono (by decide : 2 ≤ 2)) (d_var (pv 3)) rfl) (d_var (pv 3))))))))
      (s_one (s_ret (d_var (pv 1))))))))
theorem ok__law_sum (T : TX Z) : GF Z "_law_sum" 2 g__law_sum := by
  obtain ⟨fd, F⟩ := fn__law_sum T
  exact gf_mk (gl__law_sum T) F sc__law_sum (fun _ _ _ _ _ _ us hl => match us, hl with | [_, _], _ => rfl) (fun cdv A outer s H E ok hr => (have hu := hr.units
    
    (s_cons (s_new (k := 2) sc__law_sum.nd rfl (Or.inl rfl) (n_op n_cat (d_lst (da_cons d_int da_nil)) (d_op (o_of_n n_rep) (d_lst (da_cons d_int da_nil)) (d_callB c_len rfl (fr_len T) (by decide +kernel) (da_cons (d_var (pv 0)) da_nil)))))
      (s_cons (s_for (ks := [3]) PassesOwn.never rfl (di_list (d_var (pv 1))) (dg_name (pg_name (i := 3) sc__law_sum.nd rfl (Or.inl rfl))) (s_one (s_for (ks := [4]) PassesOwn.never rfl (di_down rfl (fr_range T) (da_cons (d_callB c_len rfl (fr_len T) (by decide +kernel) (da_cons (d_var (pv 0)) da_nil)) (da_cons d_int (da_cons (d_un o_neg d_int) da_nil)))) (dg_name (pg_name (i := 4) sc__law_sum.nd rfl (Or.inl rfl))) (s_one (s_asg (ks := []) (d_op o_add (d_ixO ok hu (pv 2) (d_var (pv 4)) (fun _ _ => rfl)) (d_op o_mul (d_ixO ok hu (pv 2) (d_op o_sub (d_var (pv 4)) d_int) (fun _ _ => rfl)) (d_call ok (ok__law_at T) (hr.mono (by decide : 1 ≤ 1)) rfl (da_cons (d_ix (o_ix ok hu) (d_var (pv 0)) (d_op o_sub (d_var (pv 4)) d_int) (fun _ _ => rfl)) (da_cons (d_var (pv 3)) da_nil))))) (dg_sub ok hu (pv 2) (d_var (pv 4))))))))
      (s_one (s_ret (d_ixO ok hu (pv 2) (d_un o_neg d_int) (fun _ _ => rfl))))))))
theorem ok__law_result (T : TX Z) : GF Z "_law_result" 3 g__law_result := by
  obtain ⟨fd, F⟩ := fn__law_result T
  exact gf_mk (gl__law_result T) F sc__law_result (fun _ _ _ _ _ _ us hl => match us, hl with | [_, _, _], _ => rfl) (fun cdv A outer s H E ok hr => (have hu := hr.units
    
    (s_one (s_ret (d_callB (c_sum rfl) rfl (fr_sum T) (by decide +kernel) (da_cons (d_comp (own := [("_law_term", 3)]) (vs := [3]) rfl sc__law_result.nd (di_dic ok (d_var (pv 0))) (blkOk_by (sc := defScope (st 87)) (N := ["_law_parts", "_law_rows_here", "_law_at_here", "_law_term"]) (by decide +kernel)) rfl (fun _ _ _ _ _ => (dg_name (pg_name (i := 3) sc__law_result.nd rfl (Or.inl rfl)))) (fun _ _ _ _ _ => dts_nil) (fun _ _ _ _ _ => (d_op o_mul (d_op o_mul (d_op o_mul (d_ix (o_ix ok.blk hu) (d_var (pv 0)) (d_var (pv 3)) (fun _ _ => rfl)) (d_call ok.blk (ok__law_sum T) (hr.mono (by decide : 2 ≤ 2)) rfl (da_cons (d_ix (o_ix ok.blk hu) (d_var (pv 3)) d_int (fun _ _ => rfl)) (da_cons (d_cut (d_var (pv 1)) dp_none (dp_some (d_var (pv 2)))) da_nil)))) (d_call ok.blk (ok__law_at T) (hr.mono (by decide : 1 ≤ 2)) rfl (da_cons (d_ix (o_ix ok.blk hu) (d_var (pv 3)) d_int (fun _ _ => rfl)) (da_cons (d_ix (o_ix ok.blk hu) (d_var (pv 1)) (d_var (pv 2)) (fun _ _ => rfl)) da_nil)))) (d_call ok.blk (ok__law_sum T) (hr.mono (by decide : 2 ≤ 2)) rfl (da_cons (d_ix (o_ix ok.blk hu) (d_var (pv 3)) d_int (fun _ _ => rfl)) (da_cons (d_cut (d_var (pv 1)) (dp_some (d_op o_add (d_var (pv 2)) d_int)) dp_none) da_nil)))))) da_nil))))))
theorem ok__law_is_exchange (T : TX Z) : GF Z "_law_is_exchange" 5 g__law_is_exchange := by
  obtain ⟨fd, F⟩ := fn__law_is_exchange T
  exact gf_mk (gl__law_is_exchange T) F sc__law_is_exchange (fun _ _ _ _ _ _ us hl => match us, hl with | [_, _, _, _], _ => rfl) (fun cdv A outer s H E ok hr => (have hu := hr.units
    
    (s_cons (s_if (dt_w (dw_or (dt_not (dt_val (d_isiB (T := .tuple) ok T.cf rfl rfl (fr_isinstance T) (d_var (pv 3)) rfl (fr_tuple T) (by decide +kernel)))) (dw_or (dt_cmp (o_ne hu) (d_callB c_len rfl (fr_len T) (by decide +kernel) (da_cons (d_var (pv 3)) da_nil)) d_int (nomark _)) (dw_or (dt_not (dt_val (d_isiC (cl := .tab) ok T.cf rfl (fr_isinstance T) (d_ix (o_ix ok hu) (d_var (pv 3)) d_int (fun _ _ => rfl)) rfl (gc_Table T)))) (dw_or (dt_cmp (o_ne hu) (d_prop ok T.cf (ok_Table_columns T) (hr.mono (by decide : 2 ≤ 4)) (d_ix (o_ix ok hu) (d_var (pv 3)) d_int (fun _ _ => rfl)) rfl) (d_var (pv 1)) (nomark _)) (dw_or1 (dt_cmp (o_ne hu) (d_prop ok T.cf (ok_Table_height T) (hr.mono (by decide : 2 ≤ 4)) (d_ix (o_ix ok hu) (d_var (pv 3)) d_int (fun _ _ => rfl)) rfl) (d_var (pv 2)) (nomark _)))))))) (s_one (s_ret d_bl)) s_nil)
      (s_cons (s_par3 (i := 6) (j := 7) (l := 8) ok rfl rfl rfl (by decide) (by decide) (by decide) rfl rfl rfl (da_cons (d_call ok (ok__law_plain T) (hr.mono (by decide : 3 ≤ 4)) rfl (da_cons (d_meth0 ok T.cf (ok_Table_rows T) (hr.mono (by decide : 1 ≤ 4)) (d_ix (o_ix ok hu) (d_var (pv 3)) d_int (fun _ _ => rfl))) da_nil)) (da_cons (d_ix (o_ix ok hu) (d_var (pv 3)) d_int (fun _ _ => rfl)) (da_cons (d_ix (o_ix ok hu) (d_var (pv 3)) d_int (fun _ _ => rfl)) da_nil))) rfl)
      (s_cons (s_if (dt_w (dw_or (dt_not (dt_val (d_callB (c_all rfl) rfl (fr_all T) (by decide +kernel) (da_cons (d_comp (own := [("_law_one", 9)]) (vs := [9]) rfl sc__law_is_exchange.nd (di_tup (d_cut (d_var (pv 3)) (dp_some d_int) dp_none)) (blkOk_by (sc := defScope (st 91)) (N := ["_law_parts", "_law_columns", "_law_height", "_law_told", "_law_other", "_law_goal", "_law_rows_here", "_law_position", "_law_at_here", "_law_one"]) (by decide +kernel)) rfl (fun _ _ _ _ _ => (dg_name (pg_name (i := 9) sc__law_is_exchange.nd rfl (Or.inl rfl)))) (fun _ _ _ _ _ => dts_nil) (fun _ _ _ _ _ => (d_isiB (T := .int) ok.blk T.cf rfl rfl (fr_isinstance T) (d_var (pv 9)) rfl (fr_int T) (by decide +kernel)))) da_nil)))) (dw_or (dt_not (dt_chain o_le o_lt d_int (d_var (pv 7)) (d_var (pv 2)) rfl)) (dw_or1 (dt_not (dt_chain o_le o_lt d_int (d_var (pv 8)) (d_op o_sub (d_var (pv 2)) d_int) rfl)))))) (s_one (s_ret d_bl)) s_nil)
      (s_cons (s_set (k := 4) sc__law_is_exchange.nd rfl (Or.inl rfl) (d_op (o_of_n n_cat) (d_op (o_of_n n_cat) (d_cut (d_var (pv 6)) dp_none (dp_some (d_var (pv 8)))) (d_lst (da_cons (d_ix (o_ix ok hu) (d_var (pv 6)) (d_op o_add (d_var (pv 8)) d_int) (fun _ _ => rfl)) (da_cons (d_ix (o_ix ok hu) (d_var (pv 6)) (d_var (pv 8)) (fun _ _ => rfl)) da_nil)))) (d_cut (d_var (pv 6)) (dp_some (d_op o_add (d_var (pv 8)) d_int)) dp_none)))
      (s_cons (s_set (k := 5) sc__law_is_exchange.nd rfl (Or.inl rfl) (d_call ok (ok__law_moved T) (hr.mono (by decide : 1 ≤ 4)) rfl (da_cons (d_var (pv 7)) (da_cons (d_var (pv 8)) da_nil))))
      (s_one (s_ret (d_cmp (o_neR ok T.cf T.rf (ok_Ratio_eq T) (hr.mono (by decide : 2 ≤ 4))) (d_op (o_addR ok T.rf (ok_Ratio_add T) (hr.mono (by decide : 4 ≤ 4))) (d_make (cl := .rat) (dd := [.int 1]) ok (mk_Ratio1 T) (fun _ => rfl) (hr.mono (by decide : 3 ≤ 4)) rfl (da_cons d_int da_nil)) (d_call ok (ok__law_result T) (hr.mono (by decide : 3 ≤ 4)) rfl (da_cons (d_var (pv 0)) (da_cons (d_var (pv 6)) (da_cons (d_var (pv 7)) da_nil))))) (d_op (o_addR ok T.rf (ok_Ratio_add T) (hr.mono (by decide : 4 ≤ 4))) (d_make (cl := .rat) (dd := [.int 1]) ok (mk_Ratio1 T) (fun _ => rfl) (hr.mono (by decide : 3 ≤ 4)) rfl (da_cons d_int da_nil)) (d_call ok (ok__law_result T) (hr.mono (by decide : 3 ≤ 4)) rfl (da_cons (d_var (pv 0)) (da_cons (d_var (pv 4)) (da_cons (d_var (pv 5)) da_nil))))) (nomark _)))))))))))
theorem ok__law_rows (T : TX Z) : GO Z "_law_rows" 2 g__law_rows := by
  obtain ⟨fd, F⟩ := fn__law_rows T
  exact go_mk (gl__law_rows T) F sc__law_rows (fun _ _ _ _ _ _ us hl => match us, hl with | [_, _, _], _ => rfl) (fun cdv A outer s H E ok hr => (have hu := hr.units
    
    (s_one (s_ret (d_comp (own := [("_law_turn", 3)]) (vs := [3]) rfl sc__law_rows.nd (di_range rfl (fr_range T) (da_cons (d_var (pv 2)) da_nil)) (blkOk_by (sc := defScope (st 84)) (N := ["_law_pot_here", "_law_columns", "_law_many", "_law_turn", "_law_column"]) (by decide +kernel)) rfl (fun _ _ _ _ _ => (dg_name (pg_name (i := 3) sc__law_rows.nd rfl (Or.inl rfl)))) (fun _ _ _ _ _ => dts_nil) (fun _ _ _ _ _ => (d_comp (own := [("_law_column", 4)]) (vs := [4]) rfl sc__law_rows.nd (di_range rfl (fr_range T) (da_cons (d_var (pv 1)) da_nil)) (blkOk_by (N := ["_law_pot_here", "_law_columns", "_law_many", "_law_turn", "_law_column"]) (by kernel_rfl)) rfl (fun _ _ _ _ _ => (dg_name (pg_name (i := 4) sc__law_rows.nd rfl (Or.inl rfl)))) (fun _ _ _ _ _ => dts_nil) (fun _ _ _ _ _ => (d_op o_sub (d_callO ok.blk.blk (ok__law_draw T) (hr.mono (by decide : 1 ≤ 1)) rfl (pv 0) (da_cons d_int da_nil)) d_int)))))))))
end
end Pd
end
section
set_option Elab.async false
set_option linter.all false
set_option maxRecDepth 100000
set_option maxHeartbeats 4000000
/-! PdD: printed by gen2.py. -/
namespace Pd
open PySem PySem.Spec PyProof.Rows L2

section
variable {Z : Wd}
theorem ok_are_alike (T : TX Z) : GF Z "are_alike" 2 g_are_alike := by
  obtain ⟨fd, F⟩ := fn_are_alike T
  exact gf_mk (gl_are_alike T) F sc_are_alike (fun _ _ _ _ _ _ us hl => match us, hl with | [_, _], _ => rfl) (fun cdv A outer s H E ok hr => (have hu := hr.units
    
    (s_one (s_ret (d_and (d_cmp (o_eq hu) (d_callB c_len rfl (fr_len T) (by decide +kernel) (da_cons (d_var (pv 0)) da_nil)) (d_var (pv 1)) (nomark _)) (d_one (d_callB (c_all rfl) rfl (fr_all T) (by decide +kernel) (da_cons (d_comp (own := [("ratio", 2)]) (vs := [2]) rfl sc_are_alike.nd (di_list (d_var (pv 0))) (blkOk_by (sc := defScope (st 61)) (N := ["ratios", "many", "ratio"]) (by decide +kernel)) rfl (fun _ _ _ _ _ => (dg_name (pg_name (i := 2) sc_are_alike.nd rfl (Or.inl rfl)))) (fun _ _ _ _ _ => dts_nil) (fun _ _ _ _ _ => (d_cmp (o_eqR ok.blk T.rf (ok_Ratio_eq T) (hr.mono (by decide : 1 ≤ 1))) (d_var (pv 2)) (d_ix (o_ix ok.blk hu) (d_var (pv 0)) d_int (fun _ _ => rfl)) (nomark _)))) da_nil))))))))
theorem ok_arrangements_many (T : TX Z) : GF Z "arrangements_many" 1 g_arrangements_many := by
  obtain ⟨fd, F⟩ := fn_arrangements_many T
  exact gf_mk (gl_arrangements_many T) F sc_arrangements_many (fun _ _ _ _ _ _ us hl => match us, hl with | [_], _ => rfl) (fun cdv A outer s H E ok hr => (have hu := hr.units
    
    (s_cons (s_asg (ks := [1, 2, 3]) (d_tup (da_cons d_int (da_cons d_non (da_cons d_int da_nil)))) (dg_tup rfl (dgs_cons (dg_name (pg_name (i := 1) sc_arrangements_many.nd rfl (Or.inl rfl))) (dgs_cons (dg_name (pg_name (i := 2) sc_arrangements_many.nd rfl (Or.inl rfl))) (dgs_cons (dg_name (pg_name (i := 3) sc_arrangements_many.nd rfl (Or.inl rfl))) dgs_nil)))))
      (s_cons (s_for (ks := [4, 5]) PassesOwn.never rfl (di_enum rfl (fr_enumerate T) (d_var (pv 0))) (dg_tup rfl (dgs_cons (dg_name (pg_name (i := 4) sc_arrangements_many.nd rfl (Or.inl rfl))) (dgs_cons (dg_name (pg_name (i := 5) sc_arrangements_many.nd rfl (Or.inl rfl))) dgs_nil))) (s_cons (s_set (k := 3) sc_arrangements_many.nd rfl (Or.inl rfl) (d_ifExp (dt_cmp (o_eq hu) (d_var (pv 5)) (d_var (pv 2)) (nomark _)) (d_op o_add (d_var (pv 3)) d_int) d_int))
      (s_one (s_par (i := 1) (j := 2) ok rfl rfl (by decide) rfl rfl (da_cons (d_op o_div (d_op o_mul (d_var (pv 1)) (d_op o_add (d_var (pv 4)) d_int)) (d_var (pv 3))) (da_cons (d_var (pv 5)) da_nil)) rfl))))
      (s_one (s_ret (d_var (pv 1))))))))
theorem ok_marked (T : TX Z) : GF Z "marked" 1 g_marked := by
  obtain ⟨fd, F⟩ := fn_marked T
  exact gf_mk (gl_marked T) F sc_marked (fun _ _ _ _ _ _ us hl => match us, hl with | [_], _ => rfl) (fun cdv A outer s H E ok hr => (have hu := hr.units
    
    (s_cons (s_asg (ks := [2, 3, 4, 1]) (d_var (pv 0)) (dg_tup rfl (dgs_cons (dg_tup rfl (dgs_cons (dg_name (pg_name (i := 2) sc_marked.nd rfl (Or.inl rfl))) (dgs_cons (dg_name (pg_name (i := 3) sc_marked.nd rfl (Or.inl rfl))) (dgs_cons (dg_name (pg_name (i := 4) sc_marked.nd rfl (Or.inl rfl))) dgs_nil)))) (dgs_cons (dg_name (pg_name (i := 1) sc_marked.nd rfl (Or.inl rfl))) dgs_nil))))
      (s_one (s_ret (d_tup (da_cons (d_op o_add (d_op o_add (d_var (pv 2)) (d_tup (da_cons (d_var (pv 3)) da_nil))) (d_var (pv 4))) (da_cons (d_callB c_len rfl (fr_len T) (by decide +kernel) (da_cons (d_var (pv 2)) da_nil)) (da_cons (d_var (pv 1)) da_nil)))))))))
theorem ok_raised (T : TX Z) : GF Z "raised" 1 g_raised := by
  obtain ⟨fd, F⟩ := fn_raised T
  exact gf_mk (gl_raised T) F sc_raised (fun _ _ _ _ _ _ us hl => match us, hl with | [_, _], _ => rfl) (fun cdv A outer s H E ok hr => (have hu := hr.units
    
    (s_cons (s_set (k := 2) sc_raised.nd rfl (Or.inl rfl) d_int)
      (s_cons (s_for (ks := [3]) PassesOwn.never rfl (di_range rfl (fr_range T) (da_cons (d_var (pv 1)) da_nil)) (dg_name (pg_name (i := 3) sc_raised.nd rfl (Or.inl rfl))) (s_one (s_set (k := 2) sc_raised.nd rfl (Or.inl rfl) (d_op o_mul (d_var (pv 2)) (d_var (pv 0))))))
      (s_one (s_ret (d_var (pv 2))))))))
theorem ok_with_less (T : TX Z) : GO Z "with_less" 5 g_with_less := by
  obtain ⟨fd, F⟩ := fn_with_less T
  exact go_mk (gl_with_less T) F sc_with_less (fun _ _ _ _ _ _ us hl => match us, hl with | [_, _, _], _ => rfl) (fun cdv A outer s H E ok hr => (have hu := hr.units
    
    (s_cons (s_set (k := 3) sc_with_less.nd rfl (Or.inl rfl) (d_op (o_addR ok T.rf (ok_Ratio_add T) (hr.mono (by decide : 4 ≤ 4))) (d_getO ok hu (pv 0) (d_var (pv 1)) (d_make (cl := .rat) (dd := [.int 1]) ok (mk_Ratio1 T) (fun _ => rfl) (hr.mono (by decide : 3 ≤ 4)) rfl (da_cons d_int da_nil)) ⟨rfl, rfl, rfl, rfl⟩) (d_var (pv 2))))
      (s_one (s_if (dt_cmp (o_eq hu) (d_prop ok T.cf (ok_Ratio_sign T) (hr.mono (by decide : 2 ≤ 4)) (d_var (pv 3)) rfl) d_int (nomark _)) (s_one (s_pop ok hu (pv 0) (d_var (pv 1)) ⟨rfl, rfl, rfl, rfl⟩)) (s_one (s_asg (ks := []) (d_var (pv 3)) (dg_sub ok hu (pv 0) (d_var (pv 1))))))))))
theorem ok_at_number (T : TX Z) : GF Z "at_number" 6 g_at_number := by
  obtain ⟨fd, F⟩ := fn_at_number T
  exact gf_mk (gl_at_number T) F sc_at_number (fun _ _ _ _ _ _ us hl => match us, hl with | [_, _, _, _], _ => rfl) (fun cdv A outer s H E ok hr => (have hu := hr.units
    
    (s_cons (s_new (k := 4) sc_at_number.nd rfl (Or.inl rfl) (n_dic ok))
      (s_cons (s_for (ks := [5]) PassesOwn.never rfl (di_dic ok (d_var (pv 0))) (dg_name (pg_name (i := 5) sc_at_number.nd rfl (Or.inl rfl))) (s_cons (s_set (k := 6) sc_at_number.nd rfl (Or.inl rfl) (d_ix (o_ix ok hu) (d_ix (o_ix ok hu) (d_var (pv 5)) (d_var (pv 1)) (fun _ _ => rfl)) (d_var (pv 2)) (fun _ _ => rfl)))
      (s_cons (s_set (k := 7) sc_at_number.nd rfl (Or.inl rfl) (d_op o_add (d_op o_add (d_cut (d_ix (o_ix ok hu) (d_var (pv 5)) (d_var (pv 1)) (fun _ _ => rfl)) dp_none (dp_some (d_var (pv 2)))) (d_tup (da_cons d_int da_nil))) (d_cut (d_ix (o_ix ok hu) (d_var (pv 5)) (d_var (pv 1)) (fun _ _ => rfl)) (dp_some (d_op o_add (d_var (pv 2)) d_int)) dp_none)))
      (s_one (s_if (dt_w (dw_or (dt_cmp (o_eq hu) (d_var (pv 6)) d_int (nomark _)) (dw_or1 (dt_cmp (o_ne hu) (d_var (pv 3)) d_int (nomark _))))) (s_one (s_ex (d_callO ok (ok_with_less T) (hr.mono (by decide : 5 ≤ 5)) rfl (pv 4) (da_cons (d_op o_add (d_op o_add (d_cut (d_var (pv 5)) dp_none (dp_some (d_var (pv 1)))) (d_tup (da_cons (d_var (pv 7)) da_nil))) (d_cut (d_var (pv 5)) (dp_some (d_op o_add (d_var (pv 1)) d_int)) dp_none)) (da_cons (d_op (o_mulR ok T.rf (ok_Ratio_mul T) (hr.mono (by decide : 4 ≤ 5))) (d_ix (o_ix ok hu) (d_var (pv 0)) (d_var (pv 5)) (fun _ _ => rfl)) (d_call ok (ok_raised T) (hr.mono (by decide : 1 ≤ 5)) rfl (da_cons (d_var (pv 3)) (da_cons (d_var (pv 6)) da_nil)))) da_nil))))) s_nil)))))
      (s_one (s_ret (d_var (pv 4))))))))
theorem ok_rows_for (T : TX Z) : GF Z "rows_for" 7 g_rows_for := by
  obtain ⟨fd, F⟩ := fn_rows_for T
  exact gf_mk (gl_rows_for T) F sc_rows_for (fun _ _ _ _ _ _ us hl => match us, hl with | [_, _, _], _ => rfl) (fun cdv A outer s H E ok hr => (have hu := hr.units
    
    (s_cons (s_new (k := 3) sc_rows_for.nd rfl (Or.inl rfl) (n_lst da_nil))
      (s_cons (s_for (ks := [4]) PassesOwn.never rfl (di_range rfl (fr_range T) (da_cons (d_var (pv 1)) da_nil)) (dg_name (pg_name (i := 4) sc_rows_for.nd rfl (Or.inl rfl))) (s_cons (s_new (k := 5) sc_rows_for.nd rfl (Or.inl rfl) (n_lst da_nil))
      (s_cons (s_for (ks := [6]) PassesOwn.never rfl (di_range rfl (fr_range T) (da_cons (d_var (pv 0)) da_nil)) (dg_name (pg_name (i := 6) sc_rows_for.nd rfl (Or.inl rfl))) (s_cons (s_set (k := 7) sc_rows_for.nd rfl (Or.inl rfl) d_int)
      (s_cons (s_while 10 PassesOwn.never (dt_cmp (o_eqE ok hu) (d_call ok (ok_at_number T) (hr.mono (by decide : 6 ≤ 6)) rfl (da_cons (d_var (pv 2)) (da_cons (d_var (pv 4)) (da_cons (d_var (pv 6)) (da_cons (d_var (pv 7)) da_nil))))) (d_dic ok) (nomark _)) (s_one (s_set (k := 7) sc_rows_for.nd rfl (Or.inl rfl) (d_op o_add (d_var (pv 7)) d_int))))
      (s_cons (s_set (k := 2) sc_rows_for.nd rfl (Or.inl rfl) (d_call ok (ok_at_number T) (hr.mono (by decide : 6 ≤ 6)) rfl (da_cons (d_var (pv 2)) (da_cons (d_var (pv 4)) (da_cons (d_var (pv 6)) (da_cons (d_var (pv 7)) da_nil))))))
      (s_one (s_app ok (pv 5) (d_var (pv 7))))))))
      (s_one (s_app ok (pv 3) (d_var (pv 5)))))))
      (s_one (s_ret (d_var (pv 3))))))))
theorem ok_moved_to (T : TX Z) : GF Z "moved_to" 1 g_moved_to := by
  obtain ⟨fd, F⟩ := fn_moved_to T
  exact gf_mk (gl_moved_to T) F sc_moved_to (fun _ _ _ _ _ _ us hl => match us, hl with | [_, _], _ => rfl) (fun cdv A outer s H E ok hr => (have hu := hr.units
    
    (s_cons (s_if (dt_cmp (o_eq hu) (d_var (pv 0)) (d_var (pv 1)) (nomark _)) (s_one (s_ret (d_op o_add (d_var (pv 1)) d_int))) s_nil)
      (s_one (s_ret (d_ifExp (dt_cmp (o_eq hu) (d_var (pv 0)) (d_op o_add (d_var (pv 1)) d_int) (nomark _)) (d_var (pv 1)) (d_var (pv 0))))))))
theorem ok_with_exchange (T : TX Z) : GF Z "with_exchange" 1 g_with_exchange := by
  obtain ⟨fd, F⟩ := fn_with_exchange T
  exact gf_mk (gl_with_exchange T) F sc_with_exchange (fun _ _ _ _ _ _ us hl => match us, hl with | [_, _], _ => rfl) (fun cdv A outer s H E ok hr => (have hu := hr.units
    
    (s_one (s_ret (d_op o_add (d_op o_add (d_cut (d_var (pv 0)) dp_none (dp_some (d_var (pv 1)))) (d_tup (da_cons (d_ix (o_ix ok hu) (d_var (pv 0)) (d_op o_add (d_var (pv 1)) d_int) (fun _ _ => rfl)) (da_cons (d_ix (o_ix ok hu) (d_var (pv 0)) (d_var (pv 1)) (fun _ _ => rfl)) da_nil)))) (d_cut (d_var (pv 0)) (dp_some (d_op o_add (d_var (pv 1)) d_int)) dp_none))))))
theorem ok_unlike_at (T : TX Z) : GF Z "unlike_at" 6 g_unlike_at := by
  obtain ⟨fd, F⟩ := fn_unlike_at T
  exact gf_mk (gl_unlike_at T) F sc_unlike_at (fun _ _ _ _ _ _ us hl => match us, hl with | [_, _, _], _ => rfl) (fun cdv A outer s H E ok hr => (have hu := hr.units
    
    (s_cons (s_new (k := 3) sc_unlike_at.nd rfl (Or.inl rfl) (n_dic ok))
      (s_cons (s_for (ks := [4, 5, 6]) PassesOwn.never rfl (di_list (d_var (pv 0))) (dg_tup rfl (dgs_cons (dg_name (pg_name (i := 4) sc_unlike_at.nd rfl (Or.inl rfl))) (dgs_cons (dg_name (pg_name (i := 5) sc_unlike_at.nd rfl (Or.inl rfl))) (dgs_cons (dg_name (pg_name (i := 6) sc_unlike_at.nd rfl (Or.inl rfl))) dgs_nil)))) (s_cons (s_if (dt_cmp (o_eq hu) (d_var (pv 5)) (d_var (pv 1)) (nomark _)) (s_one (s_ex (d_callO ok (ok_with_less T) (hr.mono (by decide : 5 ≤ 5)) rfl (pv 3) (da_cons (d_var (pv 4)) (da_cons (d_var (pv 6)) da_nil))))) s_nil)
      (s_one (s_if (dt_cmp (o_eq hu) (d_var (pv 5)) (d_call ok (ok_moved_to T) (hr.mono (by decide : 1 ≤ 5)) rfl (da_cons (d_var (pv 1)) (da_cons (d_var (pv 2)) da_nil))) (nomark _)) (s_one (s_ex (d_callO ok (ok_with_less T) (hr.mono (by decide : 5 ≤ 5)) rfl (pv 3) (da_cons (d_call ok (ok_with_exchange T) (hr.mono (by decide : 1 ≤ 5)) rfl (da_cons (d_var (pv 4)) (da_cons (d_var (pv 2)) da_nil))) (da_cons (d_un (o_negR ok (ok_Ratio_neg T) (hr.mono (by decide : 4 ≤ 5))) (d_var (pv 6))) da_nil))))) s_nil))))
      (s_one (s_ret (d_var (pv 3))))))))
end
end Pd
end
section
set_option Elab.async false
set_option linter.all false
set_option maxRecDepth 100000
set_option maxHeartbeats 4000000
/-! PdD: printed by gen2.py. -/
namespace Pd
open PySem PySem.Spec PyProof.Rows L2

section
variable {Z : Wd}
theorem ok_want_form (T : TX Z) : GF Z "want_form" 1 g_want_form := by
  obtain ⟨fd, F⟩ := fn_want_form T
  exact gf_mk (gl_want_form T) F sc_want_form (fun _ _ _ _ _ _ us hl => match us, hl with | [_], _ => rfl) (fun cdv A outer s H E ok hr => (have hu := hr.units
    
    (s_cons (s_if (dt_not (dt_val (d_isiC (cl := .frm) ok T.cf rfl (fr_isinstance T) (d_var (pv 0)) rfl (gc_Form T)))) (s_one s_never) s_nil)
      (s_one (s_ret (d_var (pv 0)))))))
theorem ok_table_of (T : TX Z) : GF Z "table_of" 8 g_table_of := by
  obtain ⟨fd, F⟩ := fn_table_of T
  exact gf_mk (gl_table_of T) F sc_table_of (fun _ _ _ _ _ _ us hl => match us, hl with | [_, _], _ => rfl) (fun cdv A outer s H E ok hr => (have hu := hr.units
    
    (s_one (s_ret (d_make (cl := .tab) (dd := []) ok (mk_Table T) (fun ds => by rw [List.append_nil]) (hr.mono (by decide : 7 ≤ 7)) rfl (da_cons (d_var (pv 0)) (da_cons (d_comp (own := [("row", 2)]) (vs := [2]) rfl sc_table_of.nd (di_list (d_var (pv 1))) (blkOk_by (sc := defScope (st 34)) (N := ["columns", "rows", "row"]) (by decide +kernel)) rfl (fun _ _ _ _ _ => (dg_name (pg_name (i := 2) sc_table_of.nd rfl (Or.inl rfl)))) (fun _ _ _ _ _ => dts_nil) (fun _ _ _ _ _ => (d_callTy (c_list ok.blk) rfl (fr_list T) (by decide +kernel) (da_cons (d_var (pv 2)) da_nil)))) da_nil)))))))
theorem ok_want_table (T : TX Z) : GF Z "want_table" 1 g_want_table := by
  obtain ⟨fd, F⟩ := fn_want_table T
  exact gf_mk (gl_want_table T) F sc_want_table (fun _ _ _ _ _ _ us hl => match us, hl with | [_], _ => rfl) (fun cdv A outer s H E ok hr => (have hu := hr.units
    
    (s_cons (s_if (dt_not (dt_val (d_isiC (cl := .tab) ok T.cf rfl (fr_isinstance T) (d_var (pv 0)) rfl (gc_Table T)))) (s_one s_never) s_nil)
      (s_one (s_ret (d_var (pv 0)))))))
theorem ok_exchanged (T : TX Z) : GF Z "exchanged" 9 g_exchanged := by
  obtain ⟨fd, F⟩ := fn_exchanged T
  exact gf_mk (gl_exchanged T) F sc_exchanged (fun _ _ _ _ _ _ us hl => match us, hl with | [_, _], _ => rfl) (fun cdv A outer s H E ok hr => (have hu := hr.units
    
    (s_cons (s_set (k := 2) sc_exchanged.nd rfl (Or.inl rfl) (d_call ok (ok_want_table T) (hr.mono (by decide : 1 ≤ 8)) rfl (da_cons (d_var (pv 0)) da_nil)))
      (s_cons (s_if (dt_w (dw_or (dt_not (dt_val (d_call ok (ok_is_count T) (hr.mono (by decide : 2 ≤ 8)) rfl (da_cons (d_var (pv 1)) da_nil)))) (dw_or1 (dt_cmp o_ge (d_op o_add (d_var (pv 1)) d_int) (d_callB c_len rfl (fr_len T) (by decide +kernel) (da_cons (d_fld (f := .rows) ok T.cf (d_var (pv 2)) rfl) da_nil)) (nomark _))))) (s_one s_never) s_nil)
      (s_cons (s_new (k := 3) sc_exchanged.nd rfl (Or.inl rfl) (n_callTy (n_list ok) rfl (fr_list T) (by decide +kernel) (da_cons (d_fld (f := .rows) ok T.cf (d_var (pv 2)) rfl) da_nil)))
      (s_cons (s_asg (ks := []) (d_tup (da_cons (d_ixO ok hu (pv 3) (d_op o_add (d_var (pv 1)) d_int) (fun _ _ => rfl)) (da_cons (d_ixO ok hu (pv 3) (d_var (pv 1)) (fun _ _ => rfl)) da_nil))) (dg_tup rfl (dgs_cons (dg_sub ok hu (pv 3) (d_var (pv 1))) (dgs_cons (dg_sub ok hu (pv 3) (d_op o_add (d_var (pv 1)) d_int)) dgs_nil))))
      (s_one (s_ret (d_call ok (ok_table_of T) (hr.mono (by decide : 8 ≤ 8)) rfl (da_cons (d_fld (f := .columns) ok T.cf (d_var (pv 2)) rfl) (da_cons (d_var (pv 3)) da_nil)))))))))))
theorem ok_exchange_in (T : TX Z) : GF Z "exchange_in" 3 g_exchange_in := by
  obtain ⟨fd, F⟩ := fn_exchange_in T
  exact gf_mk (gl_exchange_in T) F sc_exchange_in (fun _ _ _ _ _ _ us hl => match us, hl with | [_, _, _], _ => rfl) (fun cdv A outer s H E ok hr => (have hu := hr.units
    
    (s_cons (s_if (dt_w (dw_or (dt_not (dt_val (d_isiB (T := .tuple) ok T.cf rfl rfl (fr_isinstance T) (d_var (pv 1)) rfl (fr_tuple T) (by decide +kernel)))) (dw_or (dt_cmp (o_ne hu) (d_callB c_len rfl (fr_len T) (by decide +kernel) (da_cons (d_var (pv 1)) da_nil)) (d_op o_add (d_var (pv 2)) d_int) (nomark _)) (dw_or1 (dt_not (dt_val (d_isiC (cl := .tab) ok T.cf rfl (fr_isinstance T) (d_ix (o_ix ok hu) (d_var (pv 1)) d_int (fun _ _ => rfl)) rfl (gc_Table T)))))))) (s_one (s_ret d_bl)) s_nil)
      (s_cons (s_set (k := 3) sc_exchange_in.nd rfl (Or.inr rfl) (d_callB c_len rfl (fr_len T) (by decide +kernel) (da_cons (d_fld (f := .rows) ok T.cf (d_ix (o_ix ok hu) (d_var (pv 1)) d_int (fun _ _ => rfl)) rfl) da_nil)))
      (s_cons (s_if (dt_w (dw_or (dt_cmp (o_ne hu) (d_fld (f := .columns) ok T.cf (d_ix (o_ix ok hu) (d_var (pv 1)) d_int (fun _ _ => rfl)) rfl) (d_var (pv 0)) (nomark _)) (dw_or1 (dt_not (dt_val (d_callB (c_all rfl) rfl (fr_all T) (by decide +kernel) (da_cons (d_comp (own := [("one", 4)]) (vs := [4]) rfl sc_exchange_in.nd (di_tup (d_cut (d_var (pv 1)) (dp_some d_int) dp_none)) (blkOk_by (sc := defScope (st 72)) (N := ["columns", "value", "many", "height", "one"]) (by decide +kernel)) rfl (fun _ _ _ _ _ => (dg_name (pg_name (i := 4) sc_exchange_in.nd rfl (Or.inl rfl)))) (fun _ _ _ _ _ => dts_nil) (fun _ _ _ _ _ => (d_and (d_call ok.blk (ok_is_count T) (hr.mono (by decide : 2 ≤ 2)) rfl (da_cons (d_var (pv 4)) da_nil)) (d_one (d_cmp o_lt (d_var (pv 4)) (d_var (pv 3)) (nomark _)))))) da_nil))))))) (s_one (s_ret d_bl)) s_nil)
      (s_one (s_ret (d_cmp o_lt (d_op o_add (d_ix (o_ix ok hu) (d_var (pv 1)) (d_un o_neg d_int) (fun _ _ => rfl)) d_int) (d_var (pv 3)) (nomark _)))))))))
theorem ok_worth_at (T : TX Z) : GF Z "worth_at" 4 g_worth_at := by
  obtain ⟨fd, F⟩ := fn_worth_at T
  exact gf_mk (gl_worth_at T) F sc_worth_at (fun _ _ _ _ _ _ us hl => match us, hl with | [_, _], _ => rfl) (fun cdv A outer s H E ok hr => (have hu := hr.units
    
    (s_cons (s_asg (ks := [2, 3]) (d_tup (da_cons d_int (da_cons d_int da_nil))) (dg_tup rfl (dgs_cons (dg_name (pg_name (i := 2) sc_worth_at.nd rfl (Or.inl rfl))) (dgs_cons (dg_name (pg_name (i := 3) sc_worth_at.nd rfl (Or.inl rfl))) dgs_nil))))
      (s_cons (s_for (ks := [4, 5]) PassesOwn.never rfl (di_zip rfl (fr_zip T) (d_var (pv 0)) (d_var (pv 1))) (dg_tup rfl (dgs_cons (dg_name (pg_name (i := 4) sc_worth_at.nd rfl (Or.inl rfl))) (dgs_cons (dg_name (pg_name (i := 5) sc_worth_at.nd rfl (Or.inl rfl))) dgs_nil))) (s_one (s_for (ks := [6]) PassesOwn.never rfl (di_range rfl (fr_range T) (da_cons (d_var (pv 4)) da_nil)) (dg_name (pg_name (i := 6) sc_worth_at.nd rfl (Or.inl rfl))) (s_one (s_par (i := 2) (j := 3) ok rfl rfl (by decide) rfl rfl (da_cons (d_op o_mul (d_var (pv 2)) (d_fld (f := .top) ok T.cf (d_var (pv 5)) rfl)) (da_cons (d_op o_mul (d_var (pv 3)) (d_fld (f := .bottom) ok T.cf (d_var (pv 5)) rfl)) da_nil)) rfl)))))
      (s_one (s_ret (d_make (cl := .rat) (dd := []) ok (mk_Ratio T) (fun ds => by rw [List.append_nil]; rfl) (hr.mono (by decide : 3 ≤ 3)) rfl (da_cons (d_var (pv 2)) (da_cons (d_var (pv 3)) da_nil)))))))))
theorem ok_worths_at (T : TX Z) : GF Z "worths_at" 5 g_worths_at := by
  obtain ⟨fd, F⟩ := fn_worths_at T
  exact gf_mk (gl_worths_at T) F sc_worths_at (fun _ _ _ _ _ _ us hl => match us, hl with | [_, _], _ => rfl) (fun cdv A outer s H E ok hr => (have hu := hr.units
    
    (s_one (s_ret (d_comp (own := [("row", 2)]) (vs := [2]) rfl sc_worths_at.nd (di_tup (d_var (pv 1))) (blkOk_by (sc := defScope (st 43)) (N := ["letter", "rows", "row"]) (by decide +kernel)) rfl (fun _ _ _ _ _ => (dg_name (pg_name (i := 2) sc_worths_at.nd rfl (Or.inl rfl)))) (fun _ _ _ _ _ => dts_nil) (fun _ _ _ _ _ => (d_call ok.blk (ok_worth_at T) (hr.mono (by decide : 4 ≤ 4)) rfl (da_cons (d_var (pv 0)) (da_cons (d_var (pv 2)) da_nil)))))))))
theorem ok_ahead_sums (T : TX Z) : GF Z "ahead_sums" 6 g_ahead_sums := by
  obtain ⟨fd, F⟩ := fn_ahead_sums T
  exact gf_mk (gl_ahead_sums T) F sc_ahead_sums (fun _ _ _ _ _ _ us hl => match us, hl with | [_, _], _ => rfl) (fun cdv A outer s H E ok hr => (have hu := hr.units
    
    (s_cons (s_asg (ks := [3, 4]) (d_tup (da_cons (d_op (o_of_n n_rep) (d_lst (da_cons d_int da_nil)) (d_op o_add (d_callB c_len rfl (fr_len T) (by decide +kernel) (da_cons (d_var (pv 0)) da_nil)) d_int)) (da_cons d_int da_nil))) (dg_tup rfl (dgs_cons (dg_name (pg_name (i := 3) sc_ahead_sums.nd rfl (Or.inl rfl))) (dgs_cons (dg_name (pg_name (i := 4) sc_ahead_sums.nd rfl (Or.inr rfl))) dgs_nil))))
      (s_cons (s_for (ks := [2]) PassesOwn.never rfl (di_tup (d_var (pv 1))) (dg_name (pg_name (i := 2) sc_ahead_sums.nd rfl (Or.inl rfl))) (s_cons (s_asg (ks := [5, 6]) (d_call ok (ok_wholes T) (hr.mono (by decide : 1 ≤ 5)) rfl (da_cons (d_call ok (ok_worths_at T) (hr.mono (by decide : 5 ≤ 5)) rfl (da_cons (d_var (pv 2)) (da_cons (d_var (pv 0)) da_nil))) da_nil)) (dg_tup rfl (dgs_cons (dg_name (pg_name (i := 5) sc_ahead_sums.nd rfl (Or.inl rfl))) (dgs_cons (dg_name (pg_name (i := 6) sc_ahead_sums.nd rfl (Or.inl rfl))) dgs_nil))))
      (s_cons (s_parO (i := 7) (j := 8) ok rfl rfl (by decide) rfl rfl d_int (n_lst (da_cons d_int da_nil)) rfl rfl rfl)
      (s_cons (s_for (ks := [9, 10]) PassesOwn.never rfl (di_zip rfl (fr_zip T) (d_var (pv 3)) (d_var (pv 6))) (dg_tup rfl (dgs_cons (dg_name (pg_name (i := 9) sc_ahead_sums.nd rfl (Or.inl rfl))) (dgs_cons (dg_name (pg_name (i := 10) sc_ahead_sums.nd rfl (Or.inl rfl))) dgs_nil))) (s_cons (s_set (k := 7) sc_ahead_sums.nd rfl (Or.inl rfl) (d_op o_add (d_var (pv 7)) (d_op o_mul (d_var (pv 9)) (d_var (pv 10)))))
      (s_one (s_app ok (pv 8) (d_var (pv 7))))))
      (s_one (s_asg (ks := [3, 4]) (d_tup (da_cons (d_var (pv 8)) (da_cons (d_op o_mul (d_var (pv 4)) (d_var (pv 5))) da_nil))) (dg_tup rfl (dgs_cons (dg_name (pg_name (i := 3) sc_ahead_sums.nd rfl (Or.inl rfl))) (dgs_cons (dg_name (pg_name (i := 4) sc_ahead_sums.nd rfl (Or.inr rfl))) dgs_nil)))))))))
      (s_one (s_ret (d_comp (own := [("number", 11)]) (vs := [11]) rfl sc_ahead_sums.nd (di_list (d_var (pv 3))) (blkOk_by (sc := defScope (st 44)) (N := ["rows", "word", "letter", "found", "below", "bottom", "worths", "total", "late", "before", "worth", "number"]) (by decide +kernel)) rfl (fun _ _ _ _ _ => (dg_name (pg_name (i := 11) sc_ahead_sums.nd rfl (Or.inl rfl)))) (fun _ _ _ _ _ => dts_nil) (fun _ _ _ _ _ => (d_make (cl := .rat) (dd := []) ok.blk (mk_Ratio T) (fun ds => by rw [List.append_nil]; rfl) (hr.mono (by decide : 3 ≤ 5)) rfl (da_cons (d_var (pv 11)) (da_cons (d_var (pv 4)) da_nil)))))))))))
theorem ok_behind_sums (T : TX Z) : GF Z "behind_sums" 7 g_behind_sums := by
  obtain ⟨fd, F⟩ := fn_behind_sums T
  exact gf_mk (gl_behind_sums T) F sc_behind_sums (fun _ _ _ _ _ _ us hl => match us, hl with | [_, _], _ => rfl) (fun cdv A outer s H E ok hr => (have hu := hr.units
    
    (s_one (s_ret (d_rev (d_call ok (ok_ahead_sums T) (hr.mono (by decide : 6 ≤ 6)) rfl (da_cons (d_rev (d_var (pv 0))) (da_cons (d_rev (d_var (pv 1))) da_nil))))))))
theorem ok_total_of (T : TX Z) : GF Z "total_of" 5 g_total_of := by
  obtain ⟨fd, F⟩ := fn_total_of T
  exact gf_mk (gl_total_of T) F sc_total_of (fun _ _ _ _ _ _ us hl => match us, hl with | [_], _ => rfl) (fun cdv A outer s H E ok hr => (have hu := hr.units
    
    (s_cons (s_set (k := 1) sc_total_of.nd rfl (Or.inl rfl) (d_make (cl := .rat) (dd := [.int 1]) ok (mk_Ratio1 T) (fun _ => rfl) (hr.mono (by decide : 3 ≤ 4)) rfl (da_cons d_int da_nil)))
      (s_cons (s_for (ks := [2]) PassesOwn.never rfl (di_list (d_var (pv 0))) (dg_name (pg_name (i := 2) sc_total_of.nd rfl (Or.inl rfl))) (s_one (s_set (k := 1) sc_total_of.nd rfl (Or.inl rfl) (d_op (o_addR ok T.rf (ok_Ratio_add T) (hr.mono (by decide : 4 ≤ 4))) (d_var (pv 1)) (d_var (pv 2))))))
      (s_one (s_ret (d_var (pv 1))))))))
theorem ok_worths_of_form (T : TX Z) : GF Z "worths_of_form" 8 g_worths_of_form := by
  obtain ⟨fd, F⟩ := fn_worths_of_form T
  exact gf_mk (gl_worths_of_form T) F sc_worths_of_form (fun _ _ _ _ _ _ us hl => match us, hl with | [_, _], _ => rfl) (fun cdv A outer s H E ok hr => (have hu := hr.units
    
    (s_cons (s_parDD (pz := ⟨0, 0, 0, 0⟩) (i := 3) (j := 4) ok rfl rfl (by decide) rfl rfl rfl)
      (s_cons (s_for (ks := [9, 10, 11, 5]) PassesOwn.never rfl (di_list (d_fld (f := .parts) ok T.cf (d_var (pv 0)) rfl)) (dg_tup rfl (dgs_cons (dg_tup rfl (dgs_cons (dg_name (pg_name (i := 9) sc_worths_of_form.nd rfl (Or.inl rfl))) (dgs_cons (dg_name (pg_name (i := 10) sc_worths_of_form.nd rfl (Or.inl rfl))) (dgs_cons (dg_name (pg_name (i := 11) sc_worths_of_form.nd rfl (Or.inl rfl))) dgs_nil)))) (dgs_cons (dg_name (pg_name (i := 5) sc_worths_of_form.nd rfl (Or.inl rfl))) dgs_nil))) (s_cons (s_if (dt_notInO ok hu (d_var (pv 9)) (pv 3)) (s_one (s_asg (ks := []) (d_call ok (ok_ahead_sums T) (hr.mono (by decide : 6 ≤ 7)) rfl (da_cons (d_var (pv 1)) (da_cons (d_var (pv 9)) da_nil))) (dg_sub ok hu (pv 3) (d_var (pv 9))))) s_nil)
      (s_one (s_if (dt_notInO ok hu (d_var (pv 11)) (pv 4)) (s_one (s_asg (ks := []) (d_call ok (ok_behind_sums T) (hr.mono (by decide : 7 ≤ 7)) rfl (da_cons (d_var (pv 1)) (da_cons (d_var (pv 11)) da_nil))) (dg_sub ok hu (pv 4) (d_var (pv 11))))) s_nil))))
      (s_cons (s_new (k := 2) sc_worths_of_form.nd rfl (Or.inl rfl) (n_lst da_nil))
      (s_cons (s_for (ks := [6, 7]) PassesOwn.never rfl (di_enum rfl (fr_enumerate T) (d_var (pv 1))) (dg_tup rfl (dgs_cons (dg_name (pg_name (i := 6) sc_worths_of_form.nd rfl (Or.inl rfl))) (dgs_cons (dg_name (pg_name (i := 7) sc_worths_of_form.nd rfl (Or.inl rfl))) dgs_nil))) (s_cons (s_new (k := 8) sc_worths_of_form.nd rfl (Or.inl rfl) (n_lst da_nil))
      (s_cons (s_for (ks := [9, 10, 11, 5]) PassesOwn.never rfl (di_list (d_fld (f := .parts) ok T.cf (d_var (pv 0)) rfl)) (dg_tup rfl (dgs_cons (dg_tup rfl (dgs_cons (dg_name (pg_name (i := 9) sc_worths_of_form.nd rfl (Or.inl rfl))) (dgs_cons (dg_name (pg_name (i := 10) sc_worths_of_form.nd rfl (Or.inl rfl))) (dgs_cons (dg_name (pg_name (i := 11) sc_worths_of_form.nd rfl (Or.inl rfl))) dgs_nil)))) (dgs_cons (dg_name (pg_name (i := 5) sc_worths_of_form.nd rfl (Or.inl rfl))) dgs_nil))) (s_cons (s_par (i := 12) (j := 13) ok rfl rfl (by decide) rfl rfl (da_cons (d_ix (o_ix ok hu) (d_ix (o_ix ok hu) (d_var (pv 3)) (d_var (pv 9)) (fun _ _ => rfl)) (d_var (pv 6)) (fun _ _ => rfl)) (da_cons (d_ix (o_ix ok hu) (d_ix (o_ix ok hu) (d_var (pv 4)) (d_var (pv 11)) (fun _ _ => rfl)) (d_op o_add (d_var (pv 6)) d_int) (fun _ _ => rfl)) da_nil)) rfl)
      (s_one (s_if (dt_w (dw_and (dt_cmp (o_ne hu) (d_prop ok T.cf (ok_Ratio_sign T) (hr.mono (by decide : 2 ≤ 7)) (d_var (pv 12)) rfl) d_int (nomark _)) (dw_and1 (dt_cmp (o_ne hu) (d_prop ok T.cf (ok_Ratio_sign T) (hr.mono (by decide : 2 ≤ 7)) (d_var (pv 13)) rfl) d_int (nomark _))))) (s_one (s_app ok (pv 8) (d_op (o_mulR ok T.rf (ok_Ratio_mul T) (hr.mono (by decide : 4 ≤ 7))) (d_op (o_mulR ok T.rf (ok_Ratio_mul T) (hr.mono (by decide : 4 ≤ 7))) (d_op (o_mulR ok T.rf (ok_Ratio_mul T) (hr.mono (by decide : 4 ≤ 7))) (d_var (pv 5)) (d_var (pv 12))) (d_var (pv 13))) (d_call ok (ok_worth_at T) (hr.mono (by decide : 4 ≤ 7)) rfl (da_cons (d_var (pv 10)) (da_cons (d_var (pv 7)) da_nil)))))) s_nil))))
      (s_one (s_app ok (pv 2) (d_call ok (ok_total_of T) (hr.mono (by decide : 5 ≤ 7)) rfl (da_cons (d_var (pv 8)) da_nil)))))))
      (s_one (s_ret (d_var (pv 2))))))))))
theorem body_is_exchange_at (T : TX Z) {f : Addr} : Body Z ["form", "value", "told", "table", "position", "at", "ahead", "behind"] "is_exchange_at" (defScope (st 75)) f 8 (defBody (st 75)) m_is_exchange_at :=
  fun cdv A outer s H E ok hr => (have hu := hr.units
    
    (s_cons (s_set (k := 2) sc_is_exchange_at.nd rfl (Or.inl rfl) (d_call ok (ok_want_form T) (hr.mono (by decide : 1 ≤ 8)) rfl (da_cons (d_var (pv 0)) da_nil)))
      (s_cons (s_if (dt_not (dt_val (d_call ok (ok_exchange_in T) (hr.mono (by decide : 3 ≤ 8)) rfl (da_cons (d_fld (f := .columns) ok T.cf (d_var (pv 2)) rfl) (da_cons (d_var (pv 1)) (da_cons d_int da_nil)))))) (s_one (s_ret d_bl)) s_nil)
      (s_cons (s_asg (ks := [3, 4, 5]) (d_var (pv 1)) (dg_tup rfl (dgs_cons (dg_name (pg_name (i := 3) sc_is_exchange_at.nd rfl (Or.inl rfl))) (dgs_cons (dg_name (pg_name (i := 4) sc_is_exchange_at.nd rfl (Or.inl rfl))) (dgs_cons (dg_name (pg_name (i := 5) sc_is_exchange_at.nd rfl (Or.inl rfl))) dgs_nil)))))
      (s_cons (s_par (i := 6) (j := 7) ok rfl rfl (by decide) rfl rfl (da_cons (d_call ok (ok_worths_of_form T) (hr.mono (by decide : 8 ≤ 8)) rfl (da_cons (d_var (pv 2)) (da_cons (d_fld (f := .rows) ok T.cf (d_var (pv 3)) rfl) da_nil))) (da_cons (d_call ok (ok_worths_of_form T) (hr.mono (by decide : 8 ≤ 8)) rfl (da_cons (d_var (pv 2)) (da_cons (d_call ok (ok_with_exchange T) (hr.mono (by decide : 1 ≤ 8)) rfl (da_cons (d_fld (f := .rows) ok T.cf (d_var (pv 3)) rfl) (da_cons (d_var (pv 5)) da_nil))) da_nil))) da_nil)) rfl)
      (s_one (s_ret (d_cmp (o_neR ok T.cf T.rf (ok_Ratio_eq T) (hr.mono (by decide : 2 ≤ 8))) (d_ix (o_ix ok hu) (d_var (pv 6)) (d_var (pv 4)) (fun _ _ => rfl)) (d_ix (o_ix ok hu) (d_var (pv 7)) (d_call ok (ok_moved_to T) (hr.mono (by decide : 1 ≤ 8)) rfl (da_cons (d_var (pv 4)) (da_cons (d_var (pv 5)) da_nil))) (fun _ _ => rfl)) (nomark _)))))))))
theorem okk_is_exchange_at (T : TX Z) : GK Z "is_exchange_at" 9 ["value", "form"] g_is_exchange_at List.reverse := by
  obtain ⟨fd, F⟩ := fn_is_exchange_at T
  exact gk_mk (gl_is_exchange_at T) F sc_is_exchange_at (fun _ _ _ _ _ _ ws hl => match ws, hl with | [_, _], _ => rfl) rfl vals_rev (fun F vs ds r _ => r.reverse) (body_is_exchange_at T)
theorem ok_is_exchange_at (T : TX Z) : GF Z "is_exchange_at" 9 g_is_exchange_at := by
  obtain ⟨fd, F⟩ := fn_is_exchange_at T
  exact gf_mk (gl_is_exchange_at T) F sc_is_exchange_at (fun _ _ _ _ _ _ us hl => match us, hl with | [_, _], _ => rfl) (body_is_exchange_at T)
end
end Pd
end
section
set_option Elab.async false
set_option linter.all false
set_option maxRecDepth 100000
set_option maxHeartbeats 4000000
/-! PdGrp: grouped: a dict whose lists are its own. -/
namespace Pd
open PySem PySem.Spec PyProof.Rows L2

/-- entries whose values are lists of their own, at bs -/
inductive GD (Z : Wd) (F H : Hp) : List (NestedKey × Addr × Value) → List (D × D) → List Addr → Prop
  | nil : GD Z F H [] [] []
  | cons {kd : D} {a b : Addr} {vs : List V} {ds : List D} {xs : List (NestedKey × Addr × Value)} {kvs : List (D × D)} {bs : List Addr} : kOk kd = true → depth kd ≤ 8 → Rep Z F (.ref a) kd → H b = some (.lst vs) → RepL Z F vs ds → GD Z F H xs kvs bs → GD Z F H ((toKey kd, a, .ref b) :: xs) ((kd, .lst ds) :: kvs) (b :: bs)
section
variable {Z : Wd} {F H H' : Hp}
theorem GD.length : ∀ {xs : List (NestedKey × Addr × Value)} {kvs : List (D × D)} {bs : List Addr}, GD Z F H xs kvs bs → xs.length = kvs.length
  | _, _, _, .nil => rfl
  | _, _, _, .cons _ _ _ _ _ r => congrArg (· + 1) (GD.length r)
theorem GD.mono : ∀ {xs : List (NestedKey × Addr × Value)} {kvs : List (D × D)} {bs : List Addr}, (∀ b ∈ bs, H' b = H b) → GD Z F H xs kvs bs → GD Z F H' xs kvs bs
  | _, _, _, _, .nil => .nil
  | _, _, _, h, .cons a b c d e r => .cons a b c (by rw [h _ List.mem_cons_self]; exact d) e (GD.mono (fun b hb => h b (List.mem_cons_of_mem _ hb)) r)
theorem GD.snoc {kd : D} {a b : Addr} {vs : List V} {ds : List D} (h1 : kOk kd = true) (h2 : depth kd ≤ 8) (h3 : Rep Z F (.ref a) kd) (h4 : H b = some (.lst vs)) (h5 : RepL Z F vs ds) : ∀ {xs : List (NestedKey × Addr × Value)} {kvs : List (D × D)} {bs : List Addr}, GD Z F H xs kvs bs →
    GD Z F H (xs ++ [(toKey kd, a, .ref b)]) (kvs ++ [(kd, .lst ds)]) (bs ++ [b])
  | _, _, _, .nil => .cons h1 h2 h3 h4 h5 .nil
  | _, _, _, .cons a b c d e r => .cons a b c d e (GD.snoc h1 h2 h3 h4 h5 r)
theorem GD.keys : ∀ {xs : List (NestedKey × Addr × Value)} {kvs : List (D × D)} {bs : List Addr}, GD Z F H xs kvs bs → ∀ x ∈ xs, ∃ kd, x.1 = toKey kd ∧ kOk kd = true ∧ depth kd ≤ 8 ∧ Rep Z F (.ref x.2.1) kd
  | _, _, _, .nil, x, hx => by cases hx
  | _, _, _, .cons a b c _ _ r, x, hx => by
    rcases List.mem_cons.mp hx with rfl | hx
    · exact ⟨_, rfl, a, b, c⟩
    · exact GD.keys r x hx
theorem GD.repD (sm : Same F H) (N : List Addr) (hN : Same F (avoid H N)) : ∀ {xs : List (NestedKey × Addr × Value)} {kvs : List (D × D)} {bs : List Addr}, (∀ b ∈ bs, b ∉ N) → GD Z F H xs kvs bs → RepD Z (avoid H N) xs kvs
  | _, _, _, _, .nil => .nil
  | _, _, _, h, .cons a b c d e r => .cons (w := .ref _) rfl a b (c.mono hN) rfl (.ref (avoid_mk (h _ List.mem_cons_self) d) (.lst (e.mono hN))) (GD.repD sm N hN (fun b hb => h b (List.mem_cons_of_mem _ hb)) r)
def gMap (kvs : List (D × D)) (k v : D) : List (D × D) := kvs.map fun p => if eqv p.1 k then (match p.2 with | .lst vs => (p.1, .lst (vs ++ [v])) | d => (p.1, d)) else p
theorem GD.gMap_id {k v : D} (hk : kOk k = true) : ∀ {xs : List (NestedKey × Addr × Value)} {kvs : List (D × D)} {bs : List Addr}, GD Z F H xs kvs bs → toKey k ∉ xs.map (·.1) → gMap kvs k v = kvs
  | _, _, _, .nil, _ => rfl
  | _, _, _, @GD.cons _ _ _ kd a b vs ds xs kvs bs h1 h2 h3 h4 h5 r, hn => by
    rw [List.map_cons, List.mem_cons, not_or] at hn
    have ek := key_eq h1 hk
    rw [decide_eq_false (fun z => hn.1 z.symm)] at ek
    have ih := GD.gMap_id (v := v) hk r hn.2
    unfold gMap at ih ⊢
    rw [List.map_cons, ih, if_neg (by dsimp only; rw [← ek]; exact Bool.false_ne_true)]
/-- the key is there -/
theorem GD.app {k : D} (hk : kOk k = true) : ∀ {xs : List (NestedKey × Addr × Value)} {kvs : List (D × D)} {bs : List Addr}, GD Z F H xs kvs bs → bs.Nodup → (xs.map (·.1)).Nodup →
    (∃ a b vs ds, atKey xs (toKey k) = some (a, .ref b) ∧ b ∈ bs ∧ H b = some (.lst vs) ∧ dget kvs k = some (.lst ds) ∧ vs.length = ds.length ∧ ∀ y v, Rep Z F y v → GD Z F (upd H b (.lst (vs ++ [y]))) xs (gMap kvs k v) bs) ∨
      (atKey xs (toKey k) = none ∧ dget kvs k = none)
  | _, _, _, .nil, _, _ => .inr ⟨rfl, rfl⟩
  | _, _, _, @GD.cons _ _ _ kd a b vs ds xs kvs bs h1 h2 h3 h4 h5 r, hb, hx => by
    have ek := key_eq h1 hk
    rw [List.nodup_cons] at hb
    rw [List.map_cons, List.nodup_cons] at hx
    by_cases z : toKey kd = toKey k
    · rw [decide_eq_true z] at ek
      refine .inl ⟨a, b, vs, ds, ?_, List.mem_cons_self, h4, ?_, h5.length, fun y v ry => ?_⟩
      · unfold atKey
        rw [List.find?_cons]
        simp [z]
      · unfold dget
        rw [List.find?_cons]
        simp [ek.symm]
      · have e1 : gMap kvs k v = kvs := GD.gMap_id hk r (by rw [← z]; exact hx.1)
        have e2 : gMap ((kd, .lst ds) :: kvs) k v = (kd, .lst (ds ++ [v])) :: gMap kvs k v := by
          unfold gMap
          rw [List.map_cons, if_pos ek.symm]
        rw [e2, e1]
        exact .cons h1 h2 h3 upd_same (h5.append (.cons ry .nil)) (r.mono fun c hc => upd_ne fun e => hb.1 (by rw [← e]; exact hc))
    · rw [decide_eq_false z] at ek
      have e1 : atKey ((toKey kd, a, Value.ref b) :: xs) (toKey k) = atKey xs (toKey k) := by
        unfold atKey
        rw [List.find?_cons]
        simp [z]
      have e2 : dget ((kd, .lst ds) :: kvs) k = dget kvs k := by
        unfold dget
        rw [List.find?_cons]
        simp [ek.symm]
      rw [e1, e2]
      rcases GD.app hk r hb.2 hx.2 with ⟨a', b', vs', ds', g1, g2, g3, g4, g5, g6⟩ | g
      · refine .inl ⟨a', b', vs', ds', g1, List.mem_cons_of_mem _ g2, g3, g4, g5, fun y v ry => ?_⟩
        have e3 : gMap ((kd, .lst ds) :: kvs) k v = (kd, .lst ds) :: gMap kvs k v := by
          unfold gMap
          rw [List.map_cons, if_neg (by dsimp only; rw [← ek]; exact Bool.false_ne_true)]
        rw [e3]
        exact .cons h1 h2 h3 (by rw [upd_ne fun e => hb.1 (by rw [e]; exact g2)]; exact h4) h5 (g6 y v ry)
      · exact .inr g
theorem grp_some {kvs : List (D × D)} {k v d : D} (h : dget kvs k = some d) : grp kvs k v = gMap kvs k v := by
  unfold grp
  rw [if_pos (by rw [dhas_get, h]; rfl)]
  rfl
theorem grp_none {kvs : List (D × D)} {k v : D} (h : dget kvs k = none) : grp kvs k v = kvs ++ [(k, .lst [v])] := by
  unfold grp
  rw [if_neg (by rw [dhas_get, h]; exact Bool.false_ne_true)]
end

/-! ### d.setdefault(k, []) -/
def tSD (Z : Wd) (k1 k2 : Nat) : TE := fun σ H Q => ∃ (l : Addr) (y : V) (o : Obj) (xs : List (NestedKey × Addr × Value)) (kd : D) (F : Hp), σ[k1]? = some (some (V.ref l)) ∧ σ[k2]? = some (some y) ∧ H l = some (pinO l o) ∧ DObj Z o xs ∧ (l == sysModules) = false ∧
  (∀ x ∈ xs, ∃ kd', x.1 = toKey kd' ∧ kOk kd' = true ∧ depth kd' ≤ 8 ∧ Rep Z F (.ref x.2.1) kd') ∧ xs.length < 1000000 ∧ Same F H ∧ Rep Z F y kd ∧ kOk kd = true ∧ depth kd ≤ 8 ∧ (∀ q, atKey xs (toKey kd) = some q → ∃ b, q.2 = .ref b) ∧
  ∀ p, H p = none → (∀ a b, atKey xs (toKey kd) = some (a, .ref b) → Q (.ref b) (upd H p (.lst []))) ∧ (atKey xs (toKey kd) = none → ∀ o' a, y = .ref a → DObj Z o' (storedH xs (toKey kd) a (.ref p)) → Q (.ref p) (upd (upd H p (.lst [])) l (pinO l o')))
section
variable {Z : Wd} {X : Cx} {o e : Expr} {k1 k2 kk : Nat} {apos cpos p2 : Pos}
theorem pe_setdef (ok : OkX Z X) (hu : X.A.units + 64 < cLine) (ho : PE X o (tVar k1)) (he : PE X e (tVar k2)) (m : M2 X o "setdefault" apos e (.List [] p2) cpos) : PE X (.Call (.Attribute o "setdefault" apos) [e, .List [] p2] [] cpos) (tSD Z k1 k2) := by
  refine ⟨fun pins s σ H Q I ⟨l, y, oo, xs, kd, F, hl, hy, hp, dd, hS, hks, hz, sm, ry, hk, hd, hq, q⟩ => ?_⟩
  refine wpAny_Call_method m.base m.few m.line PySem.F.plainAttrs_dict PySem.F.slot_dict_setdefault PySem.F.type_dict_setdefault (thn (ho.run pins s σ H (fun x H1 => x = .ref l ∧ H1 = H) I ⟨.ref l, hl, rfl, rfl⟩) fun u s1 ⟨x, H1, I1, rx, ex, eH⟩ => ?_)
  subst ex eH
  obtain rfl : u = Value.ref l := rx
  obtain ⟨hφ, _, _⟩ := (show ObjOk X.prog X.w H1 s1.heap l (pinO l oo) from I1.hok l _ hp)
  have hφ : s1.heap.get? l = some oo := hφ
  obtain ⟨hx, ⟨es, ep, hdat, hes⟩, hnd⟩ := dd
  refine ⟨⟨oo, hφ, hx.1⟩, fun b q => by cases q; exact ⟨oo, hφ, hx.2.1⟩, ?_⟩
  rw [m.trees]
  refine Calls.callWith_builtin rfl (Calls.evalArgs_plain (Calls.spliced_cons (thn (he.run pins s1 σ H1 (fun x H' => x = y ∧ H' = H1) I1 ⟨y, hy, rfl, rfl⟩) fun iv s2 ⟨y', H2, I2, ry', ey, eH⟩ =>
    Calls.spliced_cons (thn ((pe_lst pa_nil).run pins s2 σ H2 (fun x H' => ∃ p, H1 p = none ∧ x = .ref p ∧ H' = upd H1 p (.lst [])) I2 ⟨Nat.zero_le _, fun p hp => ⟨p, by rw [← eH]; exact hp, rfl, by rw [eH]⟩⟩) fun fv s3 ⟨z, H3, I3, rz, p, hpn, ez, eH3⟩ => Calls.spliced_nil ?_))))
  subst ey eH ez eH3
  obtain rfl : fv = Value.ref p := rz
  have hkk : ∃ a, y' = .ref a := by cases kd <;> first | (simp [kOk] at hk; done) | (obtain ⟨a, _, rfl, _⟩ := ry.tup_inv; exact ⟨a, rfl⟩)
  obtain ⟨a, rfl⟩ := hkk
  obtain rfl : iv = Value.ref a := ry'
  have sm3 : Same F (upd H2 p (.lst [])) := sm.trans (same_upd hpn)
  have hpl : p ≠ l := fun e => by rw [e, hp] at hpn; cases hpn
  have hp3 : upd H2 p (.lst []) l = some (pinO l oo) := by rw [upd_ne (Ne.symm hpl)]; exact hp
  obtain ⟨hφ3, _, _⟩ := (show ObjOk X.prog X.w (upd H2 p (.lst [])) s3.heap l (pinO l oo) from I3.hok l _ hp3)
  have hφ3 : s3.heap.get? l = some oo := hφ3
  have dof : s3.heap.DictOfH (nestedKind X.prog X.w) l xs := by
    refine ⟨oo, es, ep, hφ3, hx, hdat, ?_, fun x hx => ?_, hnd⟩
    · rw [hes, ok.P, ok.w]
    · obtain ⟨kd', e1, e2, e3, e4⟩ := hks x hx
      rw [e1]
      exact is_key I3.hok sm3 e2 e3 e4
  refine call_setdefault_heap (knd := nestedKind X.prog X.w) (hsz := sizeM (Nat.le_of_lt hz)) (by show X.A.units + 1 + 8 < cLine; omega) (is_key I3.hok sm3 hk hd ry) hS dof (fun qv hqv => ?_) fun hn h' dof' hs => ?_
  · obtain ⟨b, hb⟩ := hq qv hqv
    obtain ⟨qa, qb⟩ := qv
    dsimp only at hb
    subst hb
    exact ⟨.ref b, _, I3.tok _, rfl, (q p hpn).1 qa b hqv⟩
  · obtain ⟨o', es', ep', h1, h2, h3, h4, _, h5⟩ := dof'
    refine ⟨.ref p, _, ?_, rfl, (q p hpn).2 hn o' a rfl ⟨h2, ⟨es', ep', h3, ?_⟩, h5⟩⟩
    · exact I3.write (x := l) (e := l) (by rw [hp3]; exact True.intro) (.inl rfl) (fun b q hb z => (hs.2 b hb).trans z) ⟨o', h1⟩ (pin_ok h1)
    · rw [h4, ok.P, ok.w]
end

/-! ### the loop -/
section
variable {Z : Wd} {F H H0 : Hp}
theorem GD.some : ∀ {xs : List (NestedKey × Addr × Value)} {kvs : List (D × D)} {bs : List Addr}, GD Z F H xs kvs bs → ∀ b ∈ bs, H b ≠ none
  | _, _, _, .nil, b, hb => by cases hb
  | _, _, _, .cons _ _ _ e _ r, b, hb => by
    rcases List.mem_cons.mp hb with rfl | hb
    · rw [e]; exact fun z => nomatch z
    · exact GD.some r b hb
structure GJ (Z : Wd) (F H0 : Hp) (rv : V) (kvs : List (D × D)) (σ : L2.St) (H : Hp) (l : Addr) (o : Obj) (xs : List (NestedKey × Addr × Value)) (bs : List Addr) : Prop where
  len : σ.length = 4
  s0 : σ[0]? = .some (.some rv)
  s1 : σ[1]? = .some (.some (V.ref l))
  base : Same H0 H
  at_ : H l = .some (pinO l o)
  obj : DObj Z o xs
  sys : (l == sysModules) = false
  gd : GD Z F H xs kvs bs
  nd : (l :: bs).Nodup
  new : ∀ b ∈ l :: bs, H0 b = none
theorem GJ.sets {rv : V} {kvs : List (D × D)} {σ : L2.St} {l : Addr} {o : Obj} {xs : List (NestedKey × Addr × Value)} {bs : List Addr} (g : GJ Z F H0 rv kvs σ H l o xs bs) {j : Nat} (v : V) (h0 : 0 ≠ j := by decide) (h1 : 1 ≠ j := by decide) : GJ Z F H0 rv kvs (σ.set j (.some v)) H l o xs bs :=
  ⟨by rw [List.length_set]; exact g.len, by rw [List.getElem?_set_ne (Ne.symm h0)]; exact g.s0, by rw [List.getElem?_set_ne (Ne.symm h1)]; exact g.s1, g.base, g.at_, g.obj, g.sys, g.gd, g.nd, g.new⟩
def tGrp (Z : Wd) : TS := fun D' σ H => ∃ (F H0 : Hp) (N : List Addr) (rv y w : V) (kvs : List (D × D)) (kd vd : D) (l : Addr) (o : Obj) (xs : List (NestedKey × Addr × Value)) (bs : List Addr), F = avoid H0 N ∧ GJ Z F H0 rv kvs σ H l o xs bs ∧ σ[2]? = .some (.some y) ∧ σ[3]? = .some (.some w) ∧ Rep Z F y kd ∧ Rep Z F w vd ∧ kOk kd = true ∧ depth kd ≤ 8 ∧ kvs.length < 1000000 ∧ grpLen kvs kd < 1000000 ∧
  ∀ H' o' xs' bs', GJ Z F H0 rv (grp kvs kd vd) σ H' l o' xs' bs' → D'.nx σ H'
theorem s_grp {X : Cx} {o e f : Expr} {apos cpos p2 apos2 cpos2 pos : Pos} (ok : OkX Z X) (hu : X.A.units + 64 < cLine) (ho : PE X o (tVar 1)) (he : PE X e (tVar 2)) (hf : PE X f (tVar 3)) (m : M2 X o "setdefault" apos e (.List [] p2) cpos)
    (hbase : attributeBase (.Call (.Attribute o "setdefault" apos) [e, .List [] p2] [] cpos) "append" X.env (eval (.Call (.Attribute o "setdefault" apos) [e, .List [] p2] [] cpos) X.env) = eval (.Call (.Attribute o "setdefault" apos) [e, .List [] p2] [] cpos) X.env := by rfl)
    (hfew : ((backTo cpos2 (starEach [f] X.env)).all (fun x => !x.1) && (backToKw cpos2 (keywordEach [] X.env)).all (fun x => x.1.isSome)
      && decide (([f] : List Expr).length + ([] : List Keyword).length + (if ([] : List Keyword).isEmpty then 0 else 1) < 30)) = true := by rfl)
    (hline : (apos2.endLine == cpos2.line) = true := by rfl) (hs : starEach [f] X.env = (false, eval f X.env) :: starEach [] X.env := by rfl) (hq : swapsWith (.Call (.Attribute (.Call (.Attribute o "setdefault" apos) [e, .List [] p2] [] cpos) "append" apos2) [f] [] cpos2) none pos.line X.env = pure false := by rfl) :
    PS X (.Expr (.Call (.Attribute (.Call (.Attribute o "setdefault" apos) [e, .List [] p2] [] cpos) "append" apos2) [f] [] cpos2) pos) (tGrp Z) :=
  PS.imp (ps_expr (pe_bm PySem.F.plainAttrs_list PySem.F.slot_list_append PySem.F.type_list_append mt_append (pe_setdef ok hu ho he m) (pa_cons hf pa_nil hs) hbase hfew hline hs rfl) hq) fun D' σ H ⟨F, H0, N, rv, y, w, kvs, kd, vd, l, oo, xs, bs, eF, g, hy, hw, ry, rw', hk, hd, hl, hgl, q⟩ => by
    subst eF
    have sF : Same (avoid H0 N) H := avoid_le.trans g.base
    have hbs := (List.nodup_cons.mp g.nd)
    have main := GD.app hk g.gd hbs.2 g.obj.2.2
    refine ⟨l, y, oo, xs, kd, avoid H0 N, g.s1, hy, g.at_, g.obj, g.sys, g.gd.keys, by rw [g.gd.length]; exact hl, sF, ry, hk, hd, fun qv hqv => ?_, fun p hp => ⟨fun a b hab => ?_, fun hn o' a ea dd => ?_⟩⟩
    · rcases main with ⟨a, b, vs, ds, h1, _⟩ | ⟨h1, _⟩
      · rw [h1] at hqv; cases hqv; exact ⟨b, rfl⟩
      · rw [h1] at hqv; cases hqv
    · rcases main with ⟨a', b', vs, ds, h1, h2, h3, h4, h5, h6⟩ | ⟨h1, _⟩
      · rw [hab] at h1
        cases h1
        have hpb : b ≠ p := fun z => by rw [← z, h3] at hp; cases hp
        have e1 : upd H p (.lst []) b = .some (.lst vs) := by rw [upd_ne hpb]; exact h3
        have hpl : l ≠ p := fun z => by have := g.at_; rw [z, hp] at this; cases this
        have hlb : l ≠ b := fun z => hbs.1 (by rw [z]; exact h2)
        refine ⟨.inl ⟨rfl, vs, SqL.of e1⟩, w, hw, b, vs, w, rfl, rfl, e1, ?_, ?_⟩
        · unfold grpLen at hgl
          rw [h4] at hgl
          rw [h5]
          exact Nat.lt_of_lt_of_le hgl (Nat.le_trans (by decide) lineM)
        · refine q _ oo xs bs ⟨g.len, g.s0, g.s1, fun c u hc => ?_, ?_, g.obj, g.sys, ?_, g.nd, g.new⟩
          · have hcb : c ≠ b := fun z => by rw [z, g.new b (List.mem_cons_of_mem _ h2)] at hc; cases hc
            rw [upd_ne hcb]
            exact same_upd hp _ _ (g.base _ _ hc)
          · rw [upd_ne hlb, upd_ne hpl]; exact g.at_
          · rw [grp_some h4]
            refine (h6 w vd rw').mono fun c hc => ?_
            by_cases hcb : c = b
            · rw [hcb, upd_same, upd_same]
            · rw [upd_ne hcb, upd_ne hcb, upd_ne fun z => g.gd.some c hc (by rw [z]; exact hp)]
      · rw [hab] at h1; cases h1
    · have h2 : dget kvs kd = none := by
        rcases main with ⟨a', b', vs, ds, h1, _⟩ | ⟨_, h2⟩
        · rw [hn] at h1; cases h1
        · exact h2
      have hpl : p ≠ l := fun z => by have := g.at_; rw [← z, hp] at this; cases this
      have e1 : upd (upd H p (.lst [])) l (pinO l o') p = .some (.lst []) := by rw [upd_ne hpl, upd_same]
      have ep : H0 p = none := by
        cases z : H0 p with
        | none => rfl
        | some u => rw [g.base _ _ z] at hp; cases hp
      have hpbs : p ∉ bs := fun z => g.gd.some p z hp
      subst ea
      refine ⟨.inl ⟨rfl, [], SqL.of e1⟩, w, hw, p, [], w, rfl, rfl, e1, Nat.lt_of_lt_of_le (by decide) lineM, ?_⟩
      refine q _ o' _ (bs ++ [p]) ⟨g.len, g.s0, g.s1, fun c u hc => ?_, ?_, dd, g.sys, ?_, ?_, fun b hb => ?_⟩
      · have hcp : c ≠ p := fun z => by rw [z, ep] at hc; cases hc
        have hcl : c ≠ l := fun z => by rw [z, g.new l List.mem_cons_self] at hc; cases hc
        rw [upd_ne hcp, upd_ne hcl, upd_ne hcp]
        exact g.base _ _ hc
      · rw [upd_ne (Ne.symm hpl), upd_same]
      · rw [grp_none h2, storedH_new hn]
        have ed : ([] : List V) ++ [w] = [w] := rfl
        refine GD.snoc hk hd ry upd_same (by rw [ed]; exact .cons rw' .nil) (g.gd.mono fun c hc => ?_)
        rw [upd_ne (fun z => hpbs (by rw [← z]; exact hc)), upd_ne (fun z => hbs.1 (by rw [← z]; exact hc)), upd_ne (fun z => hpbs (by rw [← z]; exact hc))]
      · rw [← List.cons_append, List.nodup_append]
        refine ⟨g.nd, by simp, fun a ha b hb => ?_⟩
        rw [List.mem_singleton.mp hb]
        rintro rfl
        rcases List.mem_cons.mp ha with z | z
        · exact hpl z
        · exact hpbs z
      · rw [← List.cons_append] at hb
        rcases List.mem_append.mp hb with z | z
        · exact g.new b z
        · rw [List.mem_singleton.mp z]; exact ep
end

/-! ### grouped -/
def gKv : List (D × D) → List D → Option (List (D × D))
  | kvs, [] => some kvs
  | kvs, d :: rows => match d with
    | .tup [k, v] => if kOk k ∧ depth k ≤ 8 ∧ kvs.length < 1000000 ∧ grpLen kvs k < 1000000 then gKv (grp kvs k v) rows else none
    | _ => none
theorem grp_step (a : Sl) (kvs : List (D × D)) (s2 s3 : Sl) (k v : D) (rows : List D) : forL (gT [gN 2, gN 3]) (sGrp 1 (eV 2) (eV 3)) (.tup [k, v] :: rows) [a, .o (.dic kvs), s2, s3] =
    if kOk k ∧ depth k ≤ 8 ∧ kvs.length < 1000000 ∧ grpLen kvs k < 1000000 then forL (gT [gN 2, gN 3]) (sGrp 1 (eV 2) (eV 3)) rows [a, .o (.dic (grp kvs k v)), .i k, .i v] else none := by
  have e : sGrp 1 (eV 2) (eV 3) [a, .o (.dic kvs), .i k, .i v] = if kOk k ∧ depth k ≤ 8 ∧ kvs.length < 1000000 ∧ grpLen kvs k < 1000000 then some (.nx, [a, .o (.dic (grp kvs k v)), .i k, .i v]) else none := by
    show (if kOk k ∧ depth k ≤ 8 ∧ kvs.length < 1000000 ∧ grpLen kvs k < 1000000 then bnd (putO 1 (.dic (grp kvs k v))) (fun _ => Pd.ret Ct.nx) else Pd.fail) [a, .o (.dic kvs), .i k, .i v] = _
    split <;> rfl
  show (bnd (sGrp 1 (eV 2) (eV 3)) fun c => match c with
    | .nx => forL (gT [gN 2, gN 3]) (sGrp 1 (eV 2) (eV 3)) rows
    | .rt r => Pd.ret (.rt r)) [a, .o (.dic kvs), .i k, .i v] = _
  by_cases z : kOk k ∧ depth k ≤ 8 ∧ kvs.length < 1000000 ∧ grpLen kvs k < 1000000
  · rw [if_pos z] at e ⊢
    rw [bnd_some e]
  · rw [if_neg z] at e ⊢
    unfold bnd
    rw [e]
theorem grp_loop (a : Sl) : ∀ (rows : List D) (kvs : List (D × D)) (s2 s3 : Sl) (c : Ct) (ρ' : Env), forL (gT [gN 2, gN 3]) (sGrp 1 (eV 2) (eV 3)) rows [a, .o (.dic kvs), s2, s3] = some (c, ρ') → ∃ kvs' s2' s3', gKv kvs rows = some kvs' ∧ c = .nx ∧ ρ' = [a, .o (.dic kvs'), s2', s3']
  | [], kvs, s2, s3, c, ρ', h => by cases h; exact ⟨kvs, s2, s3, rfl, rfl, rfl⟩
  | d :: rows, kvs, s2, s3, c, ρ', h => by
    by_cases hd : ∃ k v, d = .tup [k, v]
    · obtain ⟨k, v, rfl⟩ := hd
      rw [grp_step] at h
      by_cases z : kOk k ∧ depth k ≤ 8 ∧ kvs.length < 1000000 ∧ grpLen kvs k < 1000000
      · rw [if_pos z] at h
        obtain ⟨kvs', s2', s3', h1, h2, h3⟩ := grp_loop a rows _ _ _ c ρ' h
        exact ⟨kvs', s2', s3', by unfold gKv; dsimp only; rw [if_pos z]; exact h1, h2, h3⟩
      · rw [if_neg z] at h; cases h
    · exfalso
      obtain ⟨_, ρ1, e1, _⟩ := bnd_inv h
      unfold gT at e1
      cases d with
      | tup ds =>
        match ds, e1, hd with
        | [], e1, _ => cases e1
        | [x], e1, _ =>
          obtain ⟨_, ρ2, e2, e3⟩ := bnd_inv e1
          cases e3
        | [x, y], _, hd => exact hd ⟨x, y, rfl⟩
        | x :: y :: z :: r, e1, _ =>
          obtain ⟨_, ρ2, e2, e3⟩ := bnd_inv e1
          obtain ⟨_, ρ3, e4, e5⟩ := bnd_inv e3
          cases e5
      | _ => cases e1
theorem grp_loop' (a : Sl) : ∀ (rows : List D) (kvs kvs' : List (D × D)) (s2 s3 : Sl), gKv kvs rows = some kvs' → ∃ s2' s3', forL (gT [gN 2, gN 3]) (sGrp 1 (eV 2) (eV 3)) rows [a, .o (.dic kvs), s2, s3] = some (.nx, [a, .o (.dic kvs'), s2', s3'])
  | [], kvs, _, s2, s3, h => by cases h; exact ⟨s2, s3, rfl⟩
  | d :: rows, kvs, kvs', s2, s3, h => by
    unfold gKv at h
    split at h
    · rename_i k v
      rw [grp_step]
      by_cases z : kOk k ∧ depth k ≤ 8 ∧ kvs.length < 1000000 ∧ grpLen kvs k < 1000000
      · rw [if_pos z] at h ⊢
        exact grp_loop' a rows _ kvs' _ _ h
      · rw [if_neg z] at h; cases h
    · cases h

theorem gKv_length : ∀ (rows : List D) (kvs kvs' : List (D × D)), gKv kvs rows = some kvs' → (kvs.length ≤ 1000000 → kvs'.length ≤ 1000000)
  | [], kvs, _, h, l => by cases h; exact l
  | d :: rows, kvs, kvs', h, l => by
    unfold gKv at h
    split at h
    · rename_i k v
      by_cases z : kOk k ∧ depth k ≤ 8 ∧ kvs.length < 1000000 ∧ grpLen kvs k < 1000000
      · rw [if_pos z] at h
        refine gKv_length rows _ kvs' h ?_
        unfold grp
        split
        · rw [List.length_map]; exact l
        · rw [List.length_append]; exact z.2.2.1
      · rw [if_neg z] at h; cases h
    · cases h
theorem gKv_row {rows : List D} {kvs kvs' : List (D × D)} {d : D} (h : gKv kvs (d :: rows) = some kvs') : ∃ k v, d = .tup [k, v] ∧ kOk k = true ∧ depth k ≤ 8 ∧ kvs.length < 1000000 ∧ grpLen kvs k < 1000000 ∧ gKv (grp kvs k v) rows = some kvs' := by
  unfold gKv at h
  split at h
  · rename_i k v
    by_cases z : kOk k ∧ depth k ≤ 8 ∧ kvs.length < 1000000 ∧ grpLen kvs k < 1000000
    · rw [if_pos z] at h
      exact ⟨k, v, rfl, z.1, z.2.1, z.2.2.1, z.2.2.2, h⟩
    · rw [if_neg z] at h; cases h
  · cases h
theorem grouped_eq {d r : D} (h : g_grouped [d] = some r) : ∃ rows kvs, d = .lst rows ∧ gKv [] rows = some kvs ∧ r = .dic kvs := by
  have h : (match m_grouped [.i d, .u, .u, .u] with
    | some (.rt d, _) => some d
    | some (.nx, _) => some .non
    | none => none) = some r := h
  cases e : m_grouped [.i d, .u, .u, .u] with
  | none => rw [e] at h; cases h
  | some z =>
    obtain ⟨c, ρ'⟩ := z
    rw [e] at h
    cases d with
    | lst ds =>
      have e : bnd (forL (gT [gN 2, gN 3]) (sGrp 1 (eV 2) (eV 3)) ds) (fun c => match c with | .nx => sRet (eV 1) | .rt d => Pd.ret (.rt d)) [.i (.lst ds), .o (.dic []), .u, .u] = some (c, ρ') := e
      obtain ⟨c3, ρ3, e5, e6⟩ := bnd_inv e
      obtain ⟨kvs', s2', s3', h1, rfl, rfl⟩ := grp_loop _ _ _ _ _ _ _ e5
      cases e6
      cases h
      exact ⟨ds, kvs', rfl, h1, rfl⟩
    | _ => cases e
section
variable {Z : Wd}
theorem ok_grouped (T : TX Z) : GF Z "grouped" 1 g_grouped := by
  obtain ⟨fd, F⟩ := fn_grouped T
  refine ⟨_, fd, ["rows"], 1, gl_grouped T, F.kp, F.bindsN (fun _ _ _ _ _ _ us hl => match us, hl with | [_], _ => rfl), ?_, fun ds r h => run_len h⟩
  refine F.ok sc_grouped (fun vs H Q E h => h.1) fun cdv A outer s H vs Q E hr h => ?_
  have ok : OkX Z (Cb Z ["rows", "found", "key", "value"] "grouped" (defScope (st 59)) (He.ga Z.K "grouped") cdv A outer s H E) := ⟨rfl, rfl, rfl, rfl, rfl, rfl, sc_grouped.nd⟩
  have hu := hr.units
  refine ⟨_, PSs.nox (pss_cons (ps_set (i := 1) sc_grouped.nd rfl (Or.inl rfl) (pe_dic0 ok)) (pss_cons (ps_for PassesOwn.never rfl (pi_list (pv 0)) (pg_tup rfl (pgs_cons (pg_name (i := 2) sc_grouped.nd rfl (Or.inl rfl)) (pgs_cons (pg_name (i := 3) sc_grouped.nd rfl (Or.inl rfl)) pgs_nil))) (pss_one (s_grp (Z := Z) ok hu (pv 1) (pv 2) (pv 3) ⟨rfl, rfl, rfl, rfl⟩))) (pss_one (ps_ret (pv 1))))), ?_⟩
  obtain ⟨hl, N, ds, r, tk, rs, hg, q⟩ := h
  cases rs with
  | nil => cases hl
  | @cons v d vs ds r1 r2 =>
    cases r2 with
    | cons _ _ => simp at hl
    | nil =>
      obtain ⟨rows, kvF, rfl, hk, rfl⟩ := grouped_eq hg
      obtain ⟨a, xs0, rfl, ea, rx⟩ := r1.lst_inv
      intro l ho hln hr0
      have r0 := hr0 (avoid H N)
      cases r0 with
      | @dic _ o xs _ dd hS rd _ =>
        cases rd with
        | nil =>
          have hal : a ≠ l := fun z => by have := avoid_le _ _ ea; rw [z, hln] at this; cases this
          refine ⟨.ref a, rfl, a, rfl, ⟨xs0, SqL.of (by rw [upd_ne hal]; exact avoid_le _ _ ea)⟩, ?_⟩
          refine ⟨fun i m σ2 H2 => m = rows.length - i ∧ i ≤ rows.length ∧ ∃ kvs o' xs' bs, GJ Z (avoid H N) H (.ref a) kvs σ2 H2 l o' xs' bs ∧ gKv kvs (rows.drop i) = some kvF, ⟨rows.length, rfl, Nat.zero_le _, [], o, [], [], ⟨rfl, rfl, rfl, same_upd hln, upd_same, dd, hS, .nil, by simp, fun b hb => by rw [List.mem_singleton.mp hb]; exact hln⟩, hk⟩, ?_⟩
          rintro i m σ2 H2 ⟨rfl, hi, kvs, o', xs', bs, g, hkv⟩
          have e2 : H2 a = some (.lst xs0) := g.base _ _ (avoid_le _ _ ea)
          by_cases hlt : i < rows.length
          · rw [List.drop_eq_getElem_cons hlt] at hkv
            obtain ⟨kd, vd, ed, h1, h2, h3, h4, h5⟩ := gKv_row hkv
            obtain ⟨v, hv, rv⟩ := rx.get (i := i) (d := rows[i]) (by simp [hlt])
            refine .inr ⟨⟨xs0, v, SqL.of e2, hv⟩, fun σ' H' => i + 1 ≤ rows.length ∧ ∃ kvs o' xs' bs, GJ Z (avoid H N) H (.ref a) kvs σ' H' l o' xs' bs ∧ gKv kvs (rows.drop (i + 1)) = some kvF, fun σ' H' w => ⟨rows.length - (i + 1), by omega, rfl, w.1, w.2⟩, fun x H3 yy => ?_⟩
            obtain ⟨rfl, yy⟩ := yy
            have := yy xs0 (SqL.of e2)
            rw [hv] at this
            cases this
            rw [ed] at rv
            obtain ⟨c, ys, rfl, ec, ry⟩ := rv.tup_inv
            cases ry with
            | @cons y1 _ _ _ ry1 ry =>
              cases ry with
              | @cons y2 _ _ _ ry2 ry =>
                cases ry
                have hlen := g.len
                refine ⟨c, [y1, y2], rfl, SqT.of (g.base _ _ (avoid_le _ _ ec)), rfl, y1, [y2], rfl, y2, [], rfl, rfl, ?_⟩
                refine ⟨avoid H N, H, N, .ref a, y1, y2, kvs, kd, vd, l, o', xs', bs, rfl, (g.sets y1).sets y2, ?_, ?_, ry1, ry2, h1, h2, h3, h4, fun H' o2 xs2 bs2 g2 => ⟨hlt, _, o2, xs2, bs2, g2, h5⟩⟩
                · rw [List.getElem?_set_ne (by decide), List.getElem?_set_self (by rw [hlen]; decide)]
                · rw [List.getElem?_set_self (by rw [List.length_set, hlen]; decide)]
          · have e : i = rows.length := by omega
            subst e
            rw [List.drop_length] at hkv
            cases hkv
            refine .inl ⟨⟨xs0, SqL.of e2, by rw [rx.length]; exact Nat.le_refl _⟩, ?_⟩
            have hnN : ∀ b ∈ l :: bs, b ∉ N := fun b hb z => tk b z (g.new b hb)
            have sN : Same (avoid H N) (avoid H2 N) := avoid_same g.base
            refine ⟨.ref l, g.s1, q _ H2 g.base (.ref (avoid_mk (hnN l List.mem_cons_self) g.at_) (.dic g.obj g.sys (g.gd.repD (avoid_le.trans g.base) N sN fun b hb => hnN b (List.mem_cons_of_mem _ hb)) ?_))⟩
            exact gKv_length _ _ _ hk (Nat.zero_le _)
end
end Pd
end
section
set_option Elab.async false
set_option linter.all false
set_option maxRecDepth 100000
set_option maxHeartbeats 4000000
/-! PdD: printed by gen2.py. -/
namespace Pd
open PySem PySem.Spec PyProof.Rows L2

section
variable {Z : Wd}
theorem ok_barring_at (T : TX Z) : GF Z "barring_at" 3 g_barring_at := by
  obtain ⟨fd, F⟩ := fn_barring_at T
  exact gf_mk (gl_barring_at T) F sc_barring_at (fun _ _ _ _ _ _ us hl => match us, hl with | [_], _ => rfl) (fun cdv A outer s H E ok hr => (have hu := hr.units
    
    (s_cons (s_setLc (k := 1) (own := [("part", 6)]) (vs := [6]) rfl sc_barring_at.nd rfl rfl (sw_true rfl rfl rfl (by decide +kernel)) (di_list (d_var (pv 0))) (blkOk_by (sc := defScope (st 69)) (N := ["parts", "rows", "groups", "found", "key", "lot", "part"]) (by decide +kernel)) rfl (fun _ _ _ _ _ => (dg_name (pg_name (i := 6) sc_barring_at.nd rfl (Or.inl rfl)))) (fun _ _ _ _ _ => dts_nil) (fun _ _ _ _ _ => (d_tup (da_cons (d_tup (da_cons (d_ix (o_ix ok.blk hu) (d_ix (o_ix ok.blk hu) (d_var (pv 6)) d_int (fun _ _ => rfl)) d_int (fun _ _ => rfl)) (da_cons (d_callTy c_tuple rfl (fr_tuple T) (by decide +kernel) (da_cons (d_callB (c_sorted ok.blk hu) rfl (fr_sorted T) (by decide +kernel) (da_cons (d_op o_add (d_ix (o_ix ok.blk hu) (d_ix (o_ix ok.blk hu) (d_var (pv 6)) d_int (fun _ _ => rfl)) d_int (fun _ _ => rfl)) (d_ix (o_ix ok.blk hu) (d_ix (o_ix ok.blk hu) (d_var (pv 6)) d_int (fun _ _ => rfl)) d_int (fun _ _ => rfl))) da_nil)) da_nil)) da_nil))) (da_cons (d_ix (o_ix ok.blk hu) (d_var (pv 6)) d_int (fun _ _ => rfl)) da_nil)))))
      (s_cons (s_set (k := 2) sc_barring_at.nd rfl (Or.inl rfl) (d_call ok (ok_grouped T) (hr.mono (by decide : 1 ≤ 2)) rfl (da_cons (d_var (pv 1)) da_nil)))
      (s_cons (s_new (k := 3) sc_barring_at.nd rfl (Or.inl rfl) (n_lst da_nil))
      (s_cons (s_for (ks := [4]) PassesOwn.never rfl (di_dic ok (d_var (pv 2))) (dg_name (pg_name (i := 4) sc_barring_at.nd rfl (Or.inl rfl))) (s_cons (s_set (k := 5) sc_barring_at.nd rfl (Or.inl rfl) (d_ix (o_ix ok hu) (d_var (pv 4)) d_int (fun _ _ => rfl)))
      (s_one (s_if (dt_not (dt_val (d_call ok (ok_are_alike T) (hr.mono (by decide : 2 ≤ 2)) rfl (da_cons (d_ix (o_ix ok hu) (d_var (pv 2)) (d_var (pv 4)) (fun _ _ => rfl)) (da_cons (d_op o_mul (d_call ok (ok_arrangements_many T) (hr.mono (by decide : 1 ≤ 2)) rfl (da_cons (d_var (pv 5)) da_nil)) (d_op o_add (d_callB c_len rfl (fr_len T) (by decide +kernel) (da_cons (d_var (pv 5)) da_nil)) d_int)) da_nil))))) (s_one (s_app ok (pv 3) (d_var (pv 4)))) s_nil))))
      (s_one (s_ret (d_var (pv 3))))))))))
theorem ok_exchange_at_of (T : TX Z) : GF Z "exchange_at_of" 8 g_exchange_at_of := by
  obtain ⟨fd, F⟩ := fn_exchange_at_of T
  exact gf_mk (gl_exchange_at_of T) F sc_exchange_at_of (fun _ _ _ _ _ _ us hl => match us, hl with | [_], _ => rfl) (fun cdv A outer s H E ok hr => (have hu := hr.units
    
    (s_cons (s_set (k := 1) sc_exchange_at_of.nd rfl (Or.inl rfl) (d_call ok (ok_barring_at T) (hr.mono (by decide : 3 ≤ 7)) rfl (da_cons (d_fld (f := .parts) ok T.cf (d_var (pv 0)) rfl) da_nil)))
      (s_cons (s_if (dt_cmp (o_eq hu) (d_var (pv 1)) (d_lst da_nil) (nomark _)) (s_one (s_ret d_non)) s_nil)
      (s_cons (s_set (k := 2) sc_exchange_at_of.nd rfl (Or.inr rfl) (d_op o_add d_int (d_callB (c_min rfl) rfl (fr_min T) (by decide +kernel) (da_cons (d_comp (own := [("own", 9), ("lot", 10)]) (vs := [9, 10]) rfl sc_exchange_at_of.nd (di_list (d_var (pv 1))) (blkOk_by (sc := defScope (st 71)) (N := ["form", "barred", "many", "rows", "position", "at", "row", "sums", "part", "own", "lot"]) (by decide +kernel)) rfl (fun _ _ _ _ _ => (dg_tup rfl (dgs_cons (dg_name (pg_name (i := 9) sc_exchange_at_of.nd rfl (Or.inl rfl))) (dgs_cons (dg_name (pg_name (i := 10) sc_exchange_at_of.nd rfl (Or.inl rfl))) dgs_nil)))) (fun _ _ _ _ _ => dts_nil) (fun _ _ _ _ _ => (d_callB c_len rfl (fr_len T) (by decide +kernel) (da_cons (d_var (pv 10)) da_nil)))) da_nil))))
      (s_cons (s_setLc (k := 3) (own := [("row", 6)]) (vs := [6]) rfl sc_exchange_at_of.nd rfl rfl (sw_true rfl rfl rfl (by decide +kernel)) (di_list (d_comp (own := [("part", 8)]) (vs := [8]) rfl sc_exchange_at_of.nd (di_list (d_fld (f := .parts) ok T.cf (d_var (pv 0)) rfl)) (blkOk_by (sc := defScope (st 71)) (N := ["form", "barred", "many", "rows", "position", "at", "row", "sums", "part", "own", "lot"]) (by decide +kernel)) rfl (fun _ _ _ _ _ => (dg_name (pg_name (i := 8) sc_exchange_at_of.nd rfl (Or.inl rfl)))) (fun _ _ _ _ _ => dts_nil) (fun _ _ _ _ _ => (d_call ok.blk (ok_marked T) (hr.mono (by decide : 1 ≤ 7)) rfl (da_cons (d_var (pv 8)) da_nil))))) (blkOk_by (sc := defScope (st 71)) (N := ["form", "barred", "many", "rows", "position", "at", "row", "sums", "part", "own", "lot"]) (by decide +kernel)) rfl (fun _ _ _ _ _ => (dg_name (pg_name (i := 6) sc_exchange_at_of.nd rfl (Or.inl rfl)))) (fun _ _ _ _ _ => (dts_one (dt_cmp (o_eq hu) (d_callB c_len rfl (fr_len T) (by decide +kernel) (da_cons (d_ix (o_ix ok.blk hu) (d_var (pv 6)) d_int (fun _ _ => rfl)) da_nil)) (d_var (pv 2)) (nomark _)))) (fun _ _ _ _ _ => (d_var (pv 6))))
      (s_cons (s_for (ks := [4]) PassesOwn.never rfl (di_range rfl (fr_range T) (da_cons (d_var (pv 2)) da_nil)) (dg_name (pg_name (i := 4) sc_exchange_at_of.nd rfl (Or.inl rfl))) (s_one (s_for (ks := [5]) PassesOwn.never rfl (di_range rfl (fr_range T) (da_cons (d_op o_sub (d_var (pv 2)) d_int) da_nil)) (dg_name (pg_name (i := 5) sc_exchange_at_of.nd rfl (Or.inl rfl))) (s_cons (s_set (k := 7) sc_exchange_at_of.nd rfl (Or.inl rfl) (d_call ok (ok_unlike_at T) (hr.mono (by decide : 6 ≤ 7)) rfl (da_cons (d_var (pv 3)) (da_cons (d_var (pv 4)) (da_cons (d_var (pv 5)) da_nil)))))
      (s_one (s_if (dt_cmp (o_neE ok hu) (d_var (pv 7)) (d_dic ok) (nomark _)) (s_one (s_ret (d_tup (da_cons (d_make (cl := .tab) (dd := []) ok (mk_Table T) (fun ds => by rw [List.append_nil]) (hr.mono (by decide : 7 ≤ 7)) rfl (da_cons (d_fld (f := .columns) ok T.cf (d_var (pv 0)) rfl) (da_cons (d_call ok (ok_rows_for T) (hr.mono (by decide : 7 ≤ 7)) rfl (da_cons (d_fld (f := .columns) ok T.cf (d_var (pv 0)) rfl) (da_cons (d_var (pv 2)) (da_cons (d_var (pv 7)) da_nil)))) da_nil))) (da_cons (d_var (pv 4)) (da_cons (d_var (pv 5)) da_nil)))))) s_nil))))))
      (s_one (s_ret d_non)))))))))
theorem ok_exchange_at (T : TX Z) : GF Z "exchange_at" 9 g_exchange_at := by
  obtain ⟨fd, F⟩ := fn_exchange_at T
  exact gf_mk (gl_exchange_at T) F sc_exchange_at (fun _ _ _ _ _ _ us hl => match us, hl with | [_], _ => rfl) (fun cdv A outer s H E ok hr => (have hu := hr.units
    
    (s_one (s_ret (d_call ok (ok_exchange_at_of T) (hr.mono (by decide : 8 ≤ 8)) rfl (da_cons (d_call ok (ok_want_form T) (hr.mono (by decide : 1 ≤ 8)) rfl (da_cons (d_var (pv 0)) da_nil)) da_nil))))))
theorem body_is_free_at (T : TX Z) {f : Addr} : Body Z ["form"] "is_free_at" (defScope (st 73)) f 3 (defBody (st 73)) m_is_free_at :=
  fun cdv A outer s H E ok hr => (have hu := hr.units
    
    (s_one (s_ret (d_cmp (o_eq hu) (d_call ok (ok_barring_at T) (hr.mono (by decide : 3 ≤ 3)) rfl (da_cons (d_fld (f := .parts) ok T.cf (d_call ok (ok_want_form T) (hr.mono (by decide : 1 ≤ 3)) rfl (da_cons (d_var (pv 0)) da_nil)) rfl) da_nil)) (d_lst da_nil) (nomark _)))))
theorem okk_is_free_at (T : TX Z) : GK Z "is_free_at" 4 ["form"] g_is_free_at (fun l => l) := by
  obtain ⟨fd, F⟩ := fn_is_free_at T
  exact gk_mk (gl_is_free_at T) F sc_is_free_at (fun _ _ _ _ _ _ ws hl => match ws, hl with | [_], _ => rfl) rfl (fun h => h) (fun F vs ds r _ => r) (body_is_free_at T)
theorem ok_is_free_at (T : TX Z) : GF Z "is_free_at" 4 g_is_free_at := by
  obtain ⟨fd, F⟩ := fn_is_free_at T
  exact gf_mk (gl_is_free_at T) F sc_is_free_at (fun _ _ _ _ _ _ us hl => match us, hl with | [_], _ => rfl) (body_is_free_at T)
end
end Pd
end
section
set_option Elab.async false
set_option linter.all false
set_option maxRecDepth 100000
set_option maxHeartbeats 4000000
/-! PdD: printed by gen2.py. -/
namespace Pd
open PySem PySem.Spec PyProof.Rows L2

section
variable {Z : Wd}
theorem ok__law_right (T : TX Z) : GO Z "_law_right" 11 g__law_right := by
  obtain ⟨fd, F⟩ := fn__law_right T
  exact go_mk (gl__law_right T) F sc__law_right (fun _ _ _ _ _ _ us hl => match us, hl with | [_], _ => rfl) (fun cdv A outer s H E ok hr => (have hu := hr.units
    
    (s_cons (s_set (k := 1) sc__law_right.nd rfl (Or.inl rfl) (d_ix (o_ix ok hu) (d_lst (da_cons d_int (da_cons d_int (da_cons d_int (da_cons d_int da_nil))))) (d_callO ok (ok__law_draw T) (hr.mono (by decide : 1 ≤ 10)) rfl (pv 0) (da_cons d_int da_nil)) (fun _ _ => rfl)))
      (s_cons (s_set (k := 2) sc__law_right.nd rfl (Or.inr rfl) (d_callO ok (ok__law_form T) (hr.mono (by decide : 10 ≤ 10)) rfl (pv 0) (da_cons (d_var (pv 1)) (da_cons d_int da_nil))))
      (s_cons (s_par (i := 7) (j := 8) ok rfl rfl (by decide) rfl rfl (da_cons (d_make (cl := .frm) (dd := []) ok (mk_Form T) (fun ds => by rw [List.append_nil]) (hr.mono (by decide : 8 ≤ 10)) rfl (da_cons (d_var (pv 1)) (da_cons (d_comp (own := [("_law_term", 12)]) (vs := [12]) rfl sc__law_right.nd (di_dic ok (d_var (pv 2))) (blkOk_by (sc := defScope (st 92)) (N := ["_law_pot_here", "_law_columns", "_law_parts", "_law_told", "_law_rows_here", "_law_base", "_law_order", "_law_form_here", "_law_held_here", "_law_back", "_law_here", "_law_at_here", "_law_term", "_law_spot"]) (by decide +kernel)) rfl (fun _ _ _ _ _ => (dg_name (pg_name (i := 12) sc__law_right.nd rfl (Or.inl rfl)))) (fun _ _ _ _ _ => dts_nil) (fun _ _ _ _ _ => (d_tup (da_cons (d_var (pv 12)) (da_cons (d_ix (o_ix ok.blk hu) (d_var (pv 2)) (d_var (pv 12)) (fun _ _ => rfl)) da_nil))))) da_nil))) (da_cons (d_call ok (ok__law_held T) (hr.mono (by decide : 10 ≤ 10)) rfl (da_cons (d_var (pv 2)) da_nil)) da_nil)) rfl)
      (s_cons (s_set (k := 3) sc__law_right.nd rfl (Or.inl rfl) (d_call ok (ok_exchange_at T) (hr.mono (by decide : 9 ≤ 10)) rfl (da_cons (d_var (pv 7)) da_nil)))
      (s_cons (s_if (dt_w (dw_or (dt_cmp (o_ne hu) (d_callB c_repr rfl (fr_repr T) (by decide +kernel) (da_cons (d_call ok (ok_is_free_at T) (hr.mono (by decide : 4 ≤ 10)) rfl (da_cons (d_var (pv 7)) da_nil)) da_nil)) (d_callB c_repr rfl (fr_repr T) (by decide +kernel) (da_cons (d_cmp (o_eq hu) (d_var (pv 8)) (d_lst da_nil) (nomark _)) da_nil)) (nomark _)) (dw_or1 (dt_cmp (o_ne hu) (d_isN (d_var (pv 3))) (d_cmp (o_eq hu) (d_var (pv 8)) (d_lst da_nil) (nomark _)) (nomark _))))) (s_one (s_ret d_bl)) s_nil)
      (s_cons (s_if (dt_cmp (o_ne hu) (d_var (pv 8)) (d_lst da_nil) (nomark _)) (s_cons (s_if (dt_not (dt_val (d_call ok (ok__law_is_exchange T) (hr.mono (by decide : 5 ≤ 10)) rfl (da_cons (d_var (pv 2)) (da_cons (d_var (pv 1)) (da_cons (d_ix (o_ix ok hu) (d_var (pv 8)) d_int (fun _ _ => rfl)) (da_cons (d_var (pv 3)) da_nil))))))) (s_one (s_ret d_bl)) s_nil)
      (s_cons (s_if (dt_cmp o_notB (d_callK ok (okk_is_exchange_at T) (hr.mono (by decide : 9 ≤ 10)) rfl (dk_cons (d_var (pv 3)) (dk_cons (d_var (pv 7)) dk_nil))) d_bl (nomark _)) (s_one (s_ret d_bl)) s_nil)
      (s_cons (s_set (k := 9) sc__law_right.nd rfl (Or.inl rfl) (d_tup (da_cons (d_call ok (ok_exchanged T) (hr.mono (by decide : 9 ≤ 10)) rfl (da_cons (d_ix (o_ix ok hu) (d_var (pv 3)) d_int (fun _ _ => rfl)) (da_cons (d_ix (o_ix ok hu) (d_var (pv 3)) d_int (fun _ _ => rfl)) da_nil))) (da_cons (d_call ok (ok__law_moved T) (hr.mono (by decide : 1 ≤ 10)) rfl (da_cons (d_ix (o_ix ok hu) (d_var (pv 3)) d_int (fun _ _ => rfl)) (da_cons (d_ix (o_ix ok hu) (d_var (pv 3)) d_int (fun _ _ => rfl)) da_nil))) (da_cons (d_ix (o_ix ok hu) (d_var (pv 3)) d_int (fun _ _ => rfl)) da_nil)))))
      (s_one (s_ret (d_cmp o_isB (d_call ok (ok_is_exchange_at T) (hr.mono (by decide : 9 ≤ 10)) rfl (da_cons (d_var (pv 7)) (da_cons (d_var (pv 9)) da_nil))) d_bl (nomark _))))))) s_nil)
      (s_cons (s_set (k := 4) sc__law_right.nd rfl (Or.inr rfl) (d_callO ok (ok__law_rows T) (hr.mono (by decide : 2 ≤ 10)) rfl (pv 0) (da_cons (d_var (pv 1)) (da_cons (d_op o_add d_int (d_callO ok (ok__law_draw T) (hr.mono (by decide : 1 ≤ 10)) rfl (pv 0) (da_cons d_int da_nil))) da_nil))))
      (s_cons (s_set (k := 5) sc__law_right.nd rfl (Or.inr rfl) (d_comp (own := [("_law_at_here", 11)]) (vs := [11]) rfl sc__law_right.nd (di_range rfl (fr_range T) (da_cons (d_callB c_len rfl (fr_len T) (by decide +kernel) (da_cons (d_var (pv 4)) da_nil)) da_nil)) (blkOk_by (sc := defScope (st 92)) (N := ["_law_pot_here", "_law_columns", "_law_parts", "_law_told", "_law_rows_here", "_law_base", "_law_order", "_law_form_here", "_law_held_here", "_law_back", "_law_here", "_law_at_here", "_law_term", "_law_spot"]) (by decide +kernel)) rfl (fun _ _ _ _ _ => (dg_name (pg_name (i := 11) sc__law_right.nd rfl (Or.inl rfl)))) (fun _ _ _ _ _ => dts_nil) (fun _ _ _ _ _ => (d_call ok.blk (ok__law_result T) (hr.mono (by decide : 3 ≤ 10)) rfl (da_cons (d_var (pv 2)) (da_cons (d_var (pv 4)) (da_cons (d_var (pv 11)) da_nil)))))))
      (s_cons (s_for (ks := [6]) PassesOwn.never rfl (di_list (d_call ok (ok__law_arranged T 6) (hr.mono (by decide : 8 ≤ 10)) rfl (da_cons (d_lstRng ok rfl (fr_list T) rfl (fr_range T) (d_callB c_len rfl (fr_len T) (by decide +kernel) (da_cons (d_var (pv 4)) da_nil))) da_nil))) (dg_name (pg_name (i := 6) sc__law_right.nd rfl (Or.inl rfl))) (s_cons (s_set (k := 10) sc__law_right.nd rfl (Or.inr rfl) (d_comp (own := [("_law_at_here", 11)]) (vs := [11]) rfl sc__law_right.nd (di_tup (d_var (pv 6))) (blkOk_by (sc := defScope (st 92)) (N := ["_law_pot_here", "_law_columns", "_law_parts", "_law_told", "_law_rows_here", "_law_base", "_law_order", "_law_form_here", "_law_held_here", "_law_back", "_law_here", "_law_at_here", "_law_term", "_law_spot"]) (by decide +kernel)) rfl (fun _ _ _ _ _ => (dg_name (pg_name (i := 11) sc__law_right.nd rfl (Or.inl rfl)))) (fun _ _ _ _ _ => dts_nil) (fun _ _ _ _ _ => (d_ix (o_ix ok.blk hu) (d_var (pv 4)) (d_var (pv 11)) (fun _ _ => rfl)))))
      (s_one (s_if (dt_cmp (o_ne hu) (d_comp (own := [("_law_spot", 13)]) (vs := [13]) rfl sc__law_right.nd (di_range rfl (fr_range T) (da_cons (d_callB c_len rfl (fr_len T) (by decide +kernel) (da_cons (d_var (pv 4)) da_nil)) da_nil)) (blkOk_by (sc := defScope (st 92)) (N := ["_law_pot_here", "_law_columns", "_law_parts", "_law_told", "_law_rows_here", "_law_base", "_law_order", "_law_form_here", "_law_held_here", "_law_back", "_law_here", "_law_at_here", "_law_term", "_law_spot"]) (by decide +kernel)) rfl (fun _ _ _ _ _ => (dg_name (pg_name (i := 13) sc__law_right.nd rfl (Or.inl rfl)))) (fun _ _ _ _ _ => dts_nil) (fun _ _ _ _ _ => (d_call ok.blk (ok__law_result T) (hr.mono (by decide : 3 ≤ 10)) rfl (da_cons (d_var (pv 2)) (da_cons (d_var (pv 10)) (da_cons (d_var (pv 13)) da_nil)))))) (d_comp (own := [("_law_at_here", 11)]) (vs := [11]) rfl sc__law_right.nd (di_tup (d_var (pv 6))) (blkOk_by (sc := defScope (st 92)) (N := ["_law_pot_here", "_law_columns", "_law_parts", "_law_told", "_law_rows_here", "_law_base", "_law_order", "_law_form_here", "_law_held_here", "_law_back", "_law_here", "_law_at_here", "_law_term", "_law_spot"]) (by decide +kernel)) rfl (fun _ _ _ _ _ => (dg_name (pg_name (i := 11) sc__law_right.nd rfl (Or.inl rfl)))) (fun _ _ _ _ _ => dts_nil) (fun _ _ _ _ _ => (d_ix (o_ix ok.blk hu) (d_var (pv 5)) (d_var (pv 11)) (fun _ _ => rfl)))) (nomark _)) (s_one (s_ret d_bl)) s_nil))))
      (s_one (s_ret (d_cmp o_isB (d_callK ok (okk_is_free_at T) (hr.mono (by decide : 4 ≤ 10)) rfl (dk_cons (d_var (pv 7)) dk_nil)) d_bl (nomark _)))))))))))))))
end
end Pd
end
section
set_option Elab.async false
set_option linter.all false
set_option maxRecDepth 100000
set_option maxHeartbeats 4000000
/-! PdPot: _law_pot and law, by the script as it stands. -/
namespace Pd
open PySem PySem.Spec PyProof.Rows L2
section
variable {Z : Wd}
theorem rI {f : D → D → Option D} {i j k : Int} {H : Hp} {Q : VK} (h : f (.int i) (.int j) = some (.int k)) (q : ∀ H', Same H H' → Q (.int k) H') : rD2 Z f (.int i) (.int j) H Q :=
  ⟨[], .int i, .int j, .int k, (fun _ z => (nomatch z)), .int i, .int j, h, fun v H' sm r => by rw [r.int_inv]; exact q H' sm⟩
theorem rI' {f : D → D → Option D} {i j : Int} {k : Bool} {H : Hp} {Q : VK} (h : f (.int i) (.int j) = some (.bl k)) (q : ∀ H', Same H H' → Q (.bl k) H') : rD2 Z f (.int i) (.int j) H Q :=
  ⟨[], .int i, .int j, .bl k, (fun _ z => (nomatch z)), .int i, .int j, h, fun v H' sm r => by rw [r.bl_inv]; exact q H' sm⟩
theorem cutD_ints (ns : List Int) (lo hi : Option Int) : ∃ ms : List Int, cutD (ns.map D.int) lo hi = ms.map D.int := by
  unfold cutD
  exact ⟨_, by rw [List.map_take, List.map_drop]⟩
theorem mapM_ints (ms : List Int) : (ms.map D.int).mapM int? = some ms := by
  induction ms with
  | nil => rfl
  | cons m ms ih => rw [List.map_cons, List.mapM_cons, ih]; rfl
/-- _law_pot's promise -/
def spPot (Z : Wd) : Sp := fun vs H Q _ => ∃ (a : Addr) (ns : List Int), vs = [.ref a, .int 0] ∧ SqL Z.K H a (ns.map V.int) ∧ ∀ (p : Addr) (H' : Hp) (p0 p1 : Int), 0 ≤ p0 → 0 ≤ p1 → p1 < 2147483478 → Same H H' → H' p = some (.lst [.int p0, .int p1]) → Q (.ref p) H'
structure SPt (Z : Wd) (a : Addr) (ns : List Int) (H0 : Hp) (σ : L2.St) (H : Hp) : Prop where
  len : σ.length = 3
  s0 : σ[0]? = some (some (V.ref a))
  s1 : σ[1]? = some (some (V.int 0))
  sq : SqL Z.K H0 a (ns.map V.int)
  sm : Same H0 H
theorem SPt.to {a : Addr} {ns : List Int} {H0 H H' : Hp} {σ : L2.St} (s : SPt Z a ns H0 σ H) (e : Same H H') : SPt Z a ns H0 σ H' := ⟨s.len, s.s0, s.s1, s.sq, s.sm.trans e⟩
theorem SPt.set {a : Addr} {ns : List Int} {H0 H : Hp} {σ : L2.St} (s : SPt Z a ns H0 σ H) (v : V) : SPt Z a ns H0 (σ.set 2 (some v)) H :=
  ⟨by rw [List.length_set]; exact s.len, by rw [List.getElem?_set_ne (by decide)]; exact s.s0, by rw [List.getElem?_set_ne (by decide)]; exact s.s1, s.sq, s.sm⟩
theorem SPt.now {a : Addr} {ns : List Int} {H0 H : Hp} {σ : L2.St} (s : SPt Z a ns H0 σ H) : SqL Z.K H a (ns.map V.int) := Evl.ex_l s.sm s.sq
end
theorem e2_mk {f : D → D → Option D} {ma mb : E} {ρ ρ1 ρ2 : Env} {x y z : D} (h1 : ma ρ = some (x, ρ1)) (h2 : mb ρ1 = some (y, ρ2)) (h3 : f x y = some z) : e2 f ma mb ρ = some (z, ρ2) := by
  unfold e2
  rw [bnd_some h1, bnd_some h2]
  unfold lift
  rw [h3]
theorem eCall_mk {g : List D → Option D} {ms : List E} {ρ ρ1 : Env} {xs : List D} {z : D} (h1 : args ms ρ = some (xs, ρ1)) (h3 : g xs = some z) : eCall g ms ρ = some (z, ρ1) := by
  unfold eCall
  rw [bnd_some h1]
  unfold lift
  rw [h3]
theorem potM (c : Int) : opMul (.int c) (.int ((2 * 0 + 7) ^ 3)) = some (.int (c * (2 * 0 + 7) ^ 3)) := by
  unfold opMul
  have : (small c || small ((2 * 0 + 7) ^ 3)) = true := by rw [Bool.or_eq_true]; right; decide
  simp only [this, if_true]
theorem potE (c : Int) : eLst [(eCall (a2 opMax2) [(eC (.int 0)), (e2 opSub (eV 2) (e2 opPow (eC (.int 10)) (eC (.int 18))))]), (e2 opAdd (e2 opMod (e2 opMul (eCall (a1 opInt) [(e2 opAdd (e2 opMod (eCall (a1 opInt) [(eV 2)]) (eC (.int 2147483549))) (eC (.int 17609)))]) (e2 opPow (e2 opAdd (e2 opMul (eC (.int 2)) (eV 1)) (eC (.int 7))) (eC (.int 3)))) (eC (.int 2147483477))) (eC (.int 1)))] [.u, .i (.int 0), .i (.int c)] =
    some (.lst [.int (if c - 10 ^ 18 > 0 then c - 10 ^ 18 else 0), .int ((c % 2147483549 + 17609) * (2 * 0 + 7) ^ 3 % 2147483477 + 1)], [.u, .i (.int 0), .i (.int c)]) := by
  unfold eLst
  rw [bnd_some (args2 (ρ1 := [.u, .i (.int 0), .i (.int c)]) (d := .int (if c - 10 ^ 18 > 0 then c - 10 ^ 18 else 0)) rfl (e2_mk (e2_mk (e2_mk (x := .int (c % 2147483549 + 17609)) rfl (y := .int ((2 * 0 + 7) ^ 3)) rfl (potM _)) rfl rfl) rfl rfl))]
  rfl
section
variable {Z : Wd}
theorem ok__law_pot (T : TX Z) : ∃ (f : Addr) (fd : FuncData), Z.mg "_law_pot" = some (.ref f) ∧ PySem.W.keepIn Z.K (.ref f) = true ∧ Binds Z.K fd ["_law_script", "_law_k"] [] ∧ FnOk Z.P Z.w Z.K Z.mg Z.base CX0 1 f fd ["_law_script", "_law_k"] (spPot Z) := by
  obtain ⟨fd, F⟩ := fn__law_pot T
  refine ⟨_, fd, gl__law_pot T, F.kp, F.bindsN (fun _ _ _ _ _ _ us hl => match us, hl with | [_, _], _ => rfl), ?_⟩
  refine F.ok sc__law_pot (fun vs H Q E h => by obtain ⟨a, ns, rfl, _⟩ := h; rfl) fun cdv A outer s H vs Q E hr h => ?_
  have ok : OkX Z (Cb Z ["_law_script", "_law_k", "_law_cell"] "_law_pot" (defScope (st 77)) (He.ga Z.K "_law_pot") cdv A outer s H E) := ⟨rfl, rfl, rfl, rfl, rfl, rfl, sc__law_pot.nd⟩
  have hu := hr.units
  refine ⟨_, PSs.nox (pss_cons
      (ps_set (i := 2) sc__law_pot.nd rfl (Or.inl rfl) (pe_op (o_add (Z := Z)) (pe_op (o_add (Z := Z)) (pe_op (o_mul (Z := Z)) pe_int (pv 1)) pe_int) (pe_op (o_mod (Z := Z)) (pe_callB (c_sum (Z := Z) rfl) rfl (fr_sum T) (by decide +kernel) (pa_cons (pe_slice sl_list (pv 0) po_none (po_some pe_int)) pa_nil)) pe_int)))
    (pss_cons
      (ps_if (pt_cmpR (o_lt (Z := Z)) (pv 1) (pe_callB call_len rfl (fr_len T) (by decide +kernel) (pa_cons (pv 0) pa_nil)) (nomark _))
        (pss_one (ps_set (i := 2) sc__law_pot.nd rfl (Or.inl rfl) (pe_callB (c_abs (Z := Z)) rfl (fr_abs T) (by decide +kernel) (pa_cons (pe_ix ix_list (pv 0) (pv 1) (fun _ _ => rfl)) pa_nil)))) pss_nil)
      (pss_one (ps_ret (n_lst (Z := Z) (da_cons (d_callB (c_max2 rfl) rfl (fr_max T) (by decide +kernel) (da_cons d_int (da_cons (d_op o_sub (d_var (pv 2)) (d_op o_pow d_int d_int)) da_nil)))
        (da_cons (d_op o_add (d_op o_mod (d_op o_mul (d_callTy c_int rfl (fr_int T) (by decide +kernel) (da_cons (d_op o_add (d_op o_mod (d_callTy c_int rfl (fr_int T) (by decide +kernel) (da_cons (d_var (pv 2)) da_nil)) d_int) d_int) da_nil)) (d_op o_pow (d_op o_add (d_op o_mul d_int (d_var (pv 1))) d_int) d_int)) d_int) d_int) da_nil))))))), ?_⟩
  obtain ⟨a, ns, rfl, sq, q⟩ := h
  have s0 : SPt Z a ns H (L2.start ["_law_script", "_law_k", "_law_cell"] [V.ref a, .int 0]) H := ⟨rfl, rfl, rfl, sq, Same.refl _⟩
  have key : ∀ (c : Int) (σ : L2.St) (H1 : Hp), SPt Z a ns H σ H1 → σ[2]? = some (some (V.int c)) → tN Z (eLst [(eCall (a2 opMax2) [(eC (.int 0)), (e2 opSub (eV 2) (e2 opPow (eC (.int 10)) (eC (.int 18))))]), (e2 opAdd (e2 opMod (e2 opMul (eCall (a1 opInt) [(e2 opAdd (e2 opMod (eCall (a1 opInt) [(eV 2)]) (eC (.int 2147483549))) (eC (.int 17609)))]) (e2 opPow (e2 opAdd (e2 opMul (eC (.int 2)) (eV 1)) (eC (.int 7))) (eC (.int 3)))) (eC (.int 2147483477))) (eC (.int 1)))]) σ H1 Q := fun c σ H1 g hc => by
    refine ⟨⟨H1, [], [], none⟩, [], [.u, .i (.int 0), .i (.int c)], .lst [.int (if c - 10 ^ 18 > 0 then c - 10 ^ 18 else 0), .int ((c % 2147483549 + 17609) * (2 * 0 + 7) ^ 3 % 2147483477 + 1)], _, ⟨fun _ _ _ e => e, fun _ h => (nomatch h), fun _ h => (nomatch h), fun _ h => (nomatch h), g.len, fun k d hk => ?_, fun k d hk => ?_, fun j k d e hj _ _ => ?_, fun _ _ h => (nomatch h)⟩, potE c, fun p o H' L' sm s' _ hp r => ?_⟩
    · match k, hk with
      | 1, hk => cases hk; exact ⟨_, g.s1, .int _⟩
      | 2, hk => cases hk; exact ⟨_, hc, .int _⟩
    · match k, hk with
      | 0, hk => cases hk
      | 1, hk => cases hk
      | 2, hk => cases hk
    · match j, hj with
      | 0, hk => cases hk
      | 1, hk => cases hk
      | 2, hk => cases hk
    · cases r with
      | @lst _ xs _ r =>
        obtain ⟨v, w, rfl, r1, r2⟩ := r.two
        rw [r1.int_inv, r2.int_inv] at hp
        refine q p H' _ _ ?_ ?_ ?_ (g.sm.trans fun b u e => s'.kept b u (fun z => nomatch z) e) hp
        · split <;> omega
        · omega
        · omega
  generalize L2.start ["_law_script", "_law_k", "_law_cell"] [V.ref a, .int 0] = σ0 at s0 ⊢
  refine ⟨_, s0.s1, rI rfl fun H1 e1 => rI rfl fun H2 e2 => ⟨_, s0.s0, 1, rfl, a, _, rfl, (s0.to (e1.trans e2)).now, fun p hp => ?_⟩⟩
  obtain ⟨ms, hms⟩ := cutD_ints ns none (some 1)
  have e3 : Same H2 (upd H2 p (.lst (cutV (ns.map V.int) none (some 1)))) := same_upd hp
  have rl : RepL Z (avoid (upd H2 p (.lst (cutV (ns.map V.int) none (some 1)))) []) (cutV (ns.map V.int) none (some 1)) (ms.map D.int) := by
    rw [← hms]; exact cut_rep .ints
  have hs : opSum (.lst (ms.map D.int)) = some (.int ms.sum) := by
    show Option.map (fun is => D.int is.sum) ((ms.map D.int).mapM int?) = _
    rw [mapM_ints]
    rfl
  refine ⟨[], [.lst (ms.map D.int)], .int ms.sum, (fun _ z => (nomatch z)), .cons (.ref (avoid_mk (fun z => nomatch z) upd_same) (.lst rl)) .nil, hs, fun v H3 sm3 r3 => ?_⟩
  rw [r3.int_inv]
  refine rI (k := ms.sum % 1000003) rfl fun H4 e4 => rI rfl fun H5 e5 => ?_
  have eT : Same H H5 := e1.trans (e2.trans (e3.trans (sm3.trans (e4.trans e5))))
  have s1 := (s0.to eT).set (.int (929 * 0 + 857 + ms.sum % 1000003))
  refine ⟨_, s1.s1, _, s1.s0, _, _, rfl, .inl ⟨_, s1.now, rfl⟩, ?_⟩
  have hset : ∀ (v : V), (σ0.set 2 (some v))[2]? = some (some v) := fun v => by rw [List.getElem?_set_self (by rw [s0.len]; decide)]
  cases ns with
  | nil => exact rI' (k := false) rfl fun H6 e6 => ⟨false, rfl, iteF (key _ _ H6 (s1.to e6) (hset _))⟩
  | cons n ns =>
    refine rI' (k := true) (congrArg (fun b => some (D.bl b)) (decide_eq_true (by simp))) fun H6 e6 => ⟨true, rfl, iteT ?_⟩
    refine ⟨_, s1.s0, _, s1.s1, a, _, 0, .int n, rfl, rfl, (s1.to e6).now, ?_, ?_⟩
    · unfold atI ixN; simp
    refine ⟨[], [.int n], .int (if n < 0 then -n else n), (fun _ z => (nomatch z)), .cons (.int n) .nil, rfl, fun v H7 sm7 r7 => ?_⟩
    rw [r7.int_inv]
    refine key (if n < 0 then -n else n) _ H7 (((s1.to e6).to sm7).set _) ?_
    rw [List.getElem?_set_self (by rw [List.length_set, s0.len]; decide)]
/-- law's promise -/
def spLaw (K : PySem.W.Frag) : Sp := fun vs H Q _ => ∃ (a : Addr) (ns : List Int), vs = [.ref a] ∧ SqL K H a (ns.map V.int) ∧ ∀ H', Q (.bl true) H'
/-- what the plain law says -/
def PlainLaw : Prop := ∀ p0 p1 : Int, 0 ≤ p0 → 0 ≤ p1 → p1 < 2147483478 → ∃ d, g__law_right (.lst [.int p0, .int p1]) [] = some (.bl true, d)
theorem ok_law (T : TX Z) (hP : PlainLaw) {f : Addr} {fd : FuncData} (hf : f = He.ga Z.K "law") (F : D_law.fnd Z.K fd) : FnOk Z.P Z.w Z.K Z.mg Z.base CX0 12 f fd ["_law_script"] (spLaw Z.K) := by
  subst hf
  obtain ⟨fp, fdp, g1, g2, g3, g4⟩ := ok__law_pot T
  obtain ⟨fr, fdr, ps, n, h1, h2, h3, h4, h5⟩ := (ok__law_right T).ex
  refine F.ok sc_law (fun vs H Q E h => by obtain ⟨a, ns, rfl, _⟩ := h; rfl) fun cdv A outer s H vs Q E hr h => ?_
  refine ⟨_, PSs.nox (pss_one (ps_ret (pe_call h4 hr rfl h1 h2 h3 .nil pass0 (pa_cons (pe_call g4 (hr.mono (by decide)) rfl g1 g2 g3 .nil pass0 (pa_cons (pv 0) (pa_cons pe_int pa_nil))) pa_nil)))), ?_⟩
  obtain ⟨a, ns, rfl, sq, q⟩ := h
  refine ⟨_, rfl, a, ns, rfl, sq, fun p H' p0 p1 e0 e1 e2 sm hp => ?_⟩
  obtain ⟨d, hd⟩ := hP p0 p1 e0 e1 e2
  have hn := h5 _ _ _ hd
  exact ⟨hn, p, [], [], _, _, [], .bl true, d, rfl, (fun _ z => (nomatch z)), (fun z => (nomatch z)), hp, .lst (.cons (.int p0) (.cons (.int p1) .nil)), .nil, hd, fun v H2 o' _ _ _ r => by rw [r.bl_inv]; exact q H2⟩
end
end Pd
end
section
set_option Elab.async false
set_option linter.all false
set_option maxRecDepth 100000
set_option maxHeartbeats 4000000
/-! PdHook: what the top leaves, read by a Hook of its own. -/
namespace Pd
open PySem PySem.Spec PyProof.Rows L2
theorem tx_of {P : Program} {w : World} {K : PySem.W.Frag} {mg : Str → Option Value} {base h : Heap} (X : K.In h) (G : h.Ns mainGlobals mg) (c : obsP K = valP) : TX ⟨P, w, K, mg, base, cAd K⟩ := by
  have ce : ∀ (i : Nat) {f : PySem.W.Frag → Bool}, oks[i]? = some f → f K = true := fun i f hf =>
    List.all_eq_true.mp (show (oks.all fun f => f K) = true from congrArg (fun z : AlP => z.1) c) f (List.mem_of_getElem? hf)
  have cd : ∀ d ∈ defsL, fnP K d.pt = d.val ∧ d.okB K = true := by
    have e : defsL.map (fun d => defP K d) = defsL.map (fun d => (true, d.val)) := congrArg (fun z : AlP => z.2) c
    intro d hd
    obtain ⟨i, hi⟩ := List.getElem?_of_mem hd
    have e2 : (defsL.map fun d => defP K d)[i]? = (defsL.map fun d => (true, d.val))[i]? := by rw [e]
    rw [List.getElem?_map, List.getElem?_map, hi] at e2
    have e3 : defP K d = (true, d.val) := Option.some.inj e2
    rw [defP_eq] at e3
    exact ⟨congrArg Prod.snd e3, congrArg Prod.fst e3⟩
  have c4 := List.all_eq_true.mp (ce 4 (f := fun K => cls3.all (okCl K)) rfl)
  have c5 := List.all_eq_true.mp (ce 5 (f := fun K => cfs.all fun p => (He.Fa.noat (clN p.1) (fdS p.2)).ok K) rfl)
  have c3 := He.ba (ce 3 (f := fun K => okNs K "gcd" (.builtin "math.gcd") && okNs K "lcm" (.builtin "math.lcm")) rfl)
  have c11 := He.ba (ce 11 (f := fun K => He.eqO (PySem.W.specialIn K (.builtin "object.__class__") "__get__") (some (some (.builtin "getset_descriptor.__get__"))) && decide (PySem.W.takesIn K (.builtin "object.__class__") = some true)) rfl)
  have c12 := He.ba (ce 12 (f := fun K => PySem.W.selfFirst K (cAd K .rat) && (decide (PySem.W.subIn K (.type "int") (.ref (cAd K .rat)) = some false) && (PySem.W.notFirst K (cAd K .rat) (.ref (cAd K .rat)) && He.eqO (PySem.W.findIn K (.ref (cAd K .rat)) "__ne__") (some (some (.builtin "object.__ne__")))))) rfl)
  have c12b := He.ba c12.2
  have c12c := He.ba c12b.2
  have cl := fun c => He.ba (c4 c (mem_cls3 c))
  have cl2 := fun c => He.ba (cl c).2
  have cl3 := fun c => He.ba (cl2 c).2
  have cl4 := fun c => He.ba (cl3 c).2
  have cl5 := fun c => He.ba (cl4 c).2
  have cl6 := fun c => He.ba (cl5 c).2
  refine {
    cA := fun c => rfl
    fn := fun d hd => DefP.funD (cd d hd).1 (cd d hd).2
    glo := fun x hx => He.glo_ok X G (List.all_eq_true.mp (ce 0 (f := fun K => gloL.all fun x => (He.Fa.glo x).ok K) rfl) x hx)
    free := fun x hx => He.free_ok X G (List.all_eq_true.mp (ce 1 (f := fun K => freeL.all fun x => (He.Fa.free x).ok K) rfl) x hx)
    cnst := fun p hp => He.int_ok X G (List.all_eq_true.mp (ce 2 (f := fun K => numsL.all fun p => (He.Fa.int p.1 p.2).ok K) rfl) p hp)
    gcd := PySem.W.mg_of X G (He.eqO_ok c3.1)
    lcm := PySem.W.mg_of X G (He.eqO_ok c3.2)
    mkc := fun c => He.mkr_ok (cl2 c).1
    prop := fun p hp => ?_
    rows := He.meth_ok (ce 7 (f := fun K => (He.Fa.meth "Table" "rows").ok K) rfl)
    sp := fun m hm => ?_
    spr := fun m hm => ⟨_, He.eqO_ok (List.all_eq_true.mp (ce 9 (f := fun K => (["__radd__", "__rmul__"] : List Str).all (okSpr K)) rfl) m hm)⟩
    spi := fun m hm => Option.isSome_iff_exists.mp (List.all_eq_true.mp (ce 10 (f := fun K => (["__add__", "__mul__", "__radd__", "__rmul__"] : List Str).all (okSpi K)) rfl) m hm)
    cf := {
      cl := fun c => He.cls_ok (cl c).1
      na := fun c f h => ?_
      ha := fun c => He.eqO_ok (cl3 c).1
      hn := He.eqO_ok c11.1
      htk := of_decide_eq_true c11.2
      hm := fun c => of_decide_eq_true (cl4 c).1
      kk := fun c c' => of_decide_eq_true (List.all_eq_true.mp (cl6 c).2 c' (mem_cls3 c'))
      ki := fun c => of_decide_eq_true (cl5 c).1
      ik := fun c => of_decide_eq_true (cl6 c).1 }
    rf := ⟨c12.1, of_decide_eq_true c12b.1, c12c.1, He.eqO_ok c12c.2⟩ }
  · obtain ⟨h1, h2⟩ := He.ba (List.all_eq_true.mp (ce 6 (f := fun K => propL.all (okProp K)) rfl) p hp)
    obtain ⟨h2, h3⟩ := He.ba h2
    obtain ⟨h3, h4⟩ := He.ba h3
    refine ⟨_, He.eqO_ok h1, He.eqO_ok h2, of_decide_eq_true h3, ?_⟩
    show ∃ rest, PySem.W.recIn K (He.ma K (cAd K p.1) p.2) "property" = some (.ref (match PySem.W.recIn K (He.ma K (cAd K p.1) p.2) "property" with
      | some (.ref g :: _) => g
      | _ => 0) :: rest)
    split at h4
    · rename_i g rest e
      rw [e]
      exact ⟨rest, rfl⟩
    · cases h4
  · obtain ⟨h1, h2⟩ := He.ba (List.all_eq_true.mp (ce 8 (f := fun K => (["__add__", "__mul__", "__neg__", "__eq__"] : List Str).all (okSp K)) rfl) m hm)
    exact ⟨He.eqO_ok h1, h2⟩
  · have : (c, f) ∈ cfs := by cases c <;> cases f <;> first | (exact absurd rfl h) | simp [cfs]
    exact He.noat_ok (c5 (c, f) this)
end Pd
end
section
set_option Elab.async false
set_option linter.all false
set_option maxRecDepth 100000
set_option maxHeartbeats 0
/-! PdEnd: the law's row, given the plain law. -/
open PySem PySem.W PySem.Calls PyProof.Rows
namespace Pd
section
open L2
theorem law_facts {P : Program} {w : World} {K : Frag} {h : Heap} {mg : Str → Option Value} {f : Addr} (hP : PlainLaw) (X : K.In h) (G : h.Ns mainGlobals mg) (hfa : mg ("law" : Str) = some (.ref f)) (c : obsP K = valP) :
    ∃ fd : FuncData, (∀ (s : Shared) (v : Value), BindsTo s fd ⟨[v], []⟩ [("_law_script", v)]) ∧ ∀ base : Heap, K.In base → base.Ns mainGlobals mg → L2.FnOk P w K mg base L2.CX0 12 f fd ["_law_script"] (spLaw K) := by
  have T : ∀ base, TX ⟨P, w, K, mg, base, cAd K⟩ := fun base => tx_of X G c
  obtain ⟨fd, F⟩ := fn_law (T h)
  have hf : f = He.ga K "law" := by
    have e := hfa.symm.trans (gl_law (T h))
    cases e
    rfl
  have b := L2.FunD.bindsA (ps := ["_law_script"]) F fun _ _ _ _ _ _ us hl => match us, hl with | [_], _ => rfl
  exact ⟨fd, fun s v => b s [v] rfl, fun base _ _ => ok_law (T base) hP hf F⟩
end
theorem holds_of (hP : PlainLaw) : PySem.Challenge.rw_aheadsums_k62_whole_forms_free_at_their.Holds := by
  w_on; o_law
  refine HandSHeadRun.head_imp (r := OpenLaw.row PySem.Challenge.rw_aheadsums_k62_whole_forms_free_at_their) (q := view (OpenLaw.row PySem.Challenge.rw_aheadsums_k62_whole_forms_free_at_their).prog [0, 93]) (H := hookP) (ob := ob) (M := 9000) (loose := looseL) (d := HandSHeadRun.topDef (OpenLaw.row PySem.Challenge.rw_aheadsums_k62_whole_forms_free_at_their).prog 93) (kwd := []) ob_eq
    topRun (by kernel_rfl) (by kernel_rfl) (by kernel_rfl) (by rfl) (by first | assumption | decide +kernel) (by decide +kernel) ⟨rfl, rfl, rfl, rfl, rfl, by decide +kernel⟩ ?hw ?hc
  case hw => w_witness2
  case hc =>
    refine L2.walk_ofE (l := PySem.Challenge.rw_aheadsums_k62_whole_forms_free_at_their) (n := 63) (k := 12) (x := "_law_script") (CX := L2.CX0) rfl (by decide) (by kernel_rfl) ⟨rfl, by decide, by decide⟩ ?F (fun _ _ _ _ z => z)
    intro w mg fa h Y G hmg0
    obtain ⟨K, KX, c⟩ := Y
    have hmg : mg ("law" : PySem.Str) = some (.ref fa) := by
      have e : (HandSHeadRun.topDef (OpenLaw.row PySem.Challenge.rw_aheadsums_k62_whole_forms_free_at_their).prog 93).name = ("law" : PySem.Str) := by kernel_rfl
      rw [← e]
      exact hmg0
    obtain ⟨fd, hb, hF⟩ := law_facts (P := (PySem.Challenge.rw_aheadsums_k62_whole_forms_free_at_their).prog) (w := w) hP KX G hmg c
    exact ⟨K, fd, spLaw K, KX, hb, fun H a ns hl _ hS => ⟨a, ns, rfl, hS, fun _ => rfl⟩, hF⟩
end Pd
end
section
set_option Elab.async false
set_option linter.all false
set_option maxRecDepth 100000
set_option maxHeartbeats 4000000
/-! PmBase: the pure functions by typed data: how they are reckoned. -/
namespace Pm
open Pd
/-! ### reckoning in the monad -/
@[simp] theorem bnd_ap {α β : Type} (m : M α) (f : α → M β) (ρ : Env) : bnd m f ρ = (m ρ).bind fun p => f p.1 p.2 := by
  unfold bnd
  cases m ρ <;> rfl
@[simp] theorem ret_ap {α : Type} (a : α) (ρ : Env) : ret a ρ = some (a, ρ) := rfl
@[simp] theorem fail_ap {α : Type} (ρ : Env) : (fail : M α) ρ = none := rfl
@[simp] theorem lift_ap {α : Type} (o : Option α) (ρ : Env) : lift o ρ = o.map fun a => (a, ρ) := by
  unfold lift
  cases o <;> rfl
@[simp] theorem eC_ap (d : D) (ρ : Env) : eC d ρ = some (d, ρ) := rfl
@[simp] theorem gN_ap (k : Nat) (d : D) (ρ : Env) : gN k d ρ = if k < ρ.length then some ((), ρ.set k (.i d)) else none := rfl
@[simp] theorem eV_ap (k : Nat) (ρ : Env) : eV k ρ = match ρ[k]? with
  | some (.i d) => some (d, ρ)
  | some (.o d) => some (d, ρ.set k (.i d))
  | _ => none := rfl
@[simp] theorem e1_ap (f : D → Option D) (a : E) (ρ : Env) : e1 f a ρ = (a ρ).bind fun p => (f p.1).map fun d => (d, p.2) := by simp [e1]
@[simp] theorem e2_ap (f : D → D → Option D) (a b : E) (ρ : Env) : e2 f a b ρ = (a ρ).bind fun p => (b p.2).bind fun q => (f p.1 q.1).map fun d => (d, q.2) := by simp [e2]
@[simp] theorem args_nil (ρ : Env) : args [] ρ = some ([], ρ) := rfl
@[simp] theorem args_cons (a : E) (as : List E) (ρ : Env) : args (a :: as) ρ = (a ρ).bind fun p => (args as p.2).bind fun q => some (p.1 :: q.1, q.2) := by simp [args]
@[simp] theorem eTup_ap (as : List E) (ρ : Env) : eTup as ρ = (args as ρ).bind fun p => some (.tup p.1, p.2) := by simp [eTup]
@[simp] theorem eLst_ap (as : List E) (ρ : Env) : eLst as ρ = (args as ρ).bind fun p => some (.lst p.1, p.2) := by simp [eLst]
@[simp] theorem eDic_ap (ρ : Env) : eDic ρ = some (.dic [], ρ) := rfl
@[simp] theorem eCall_ap (g : List D → Option D) (as : List E) (ρ : Env) : eCall g as ρ = (args as ρ).bind fun p => (g p.1).map fun d => (d, p.2) := by simp [eCall]
@[simp] theorem own_ap (k : Nat) (ρ : Env) : own? k ρ = match ρ[k]? with
  | some (.o d) => some (d, ρ)
  | _ => none := rfl
@[simp] theorem ownL_ap (k : Nat) (ρ : Env) : ownL? k ρ = match ρ[k]? with
  | some (.o (.lst _)) => some ((), ρ)
  | _ => none := rfl
@[simp] theorem ownD_ap (k : Nat) (ρ : Env) : ownD? k ρ = match ρ[k]? with
  | some (.o (.dic _)) => some ((), ρ)
  | _ => none := rfl
@[simp] theorem putO_ap (k : Nat) (d : D) (ρ : Env) : putO k d ρ = match ρ[k]? with
  | some (.o _) => some ((), ρ.set k (.o d))
  | _ => none := rfl
@[simp] theorem eCallO_ap (g : D → List D → Option (D × D)) (k : Nat) (as : List E) (ρ : Env) : eCallO g k as ρ = (own? k ρ).bind fun p => (args as p.2).bind fun q => (own? k q.2).bind fun r => (g r.1 q.1).bind fun z => (putO k z.2 r.2).bind fun u => some (z.1, u.2) := by
  unfold eCallO
  simp [Option.map_eq_bind, Option.bind_assoc, Function.comp_def]
@[simp] theorem eIxO_ap (k : Nat) (a : E) (ρ : Env) : eIxO k a ρ = (own? k ρ).bind fun p => (a p.2).bind fun q => (own? k q.2).bind fun r => (opIx r.1 q.1).map fun d => (d, r.2) := by simp [eIxO]
@[simp] theorem tst_ap (a : E) (ρ : Env) : tst a ρ = (a ρ).bind fun p => (bool? p.1).map fun b => (b, p.2) := by simp [tst]
@[simp] theorem tNot_ap (t : M Bool) (ρ : Env) : tNot t ρ = (t ρ).bind fun p => some (!p.1, p.2) := by simp [tNot]
@[simp] theorem tAnd_ap (t u : M Bool) (ρ : Env) : tAnd t u ρ = (t ρ).bind fun p => if p.1 then u p.2 else some (false, p.2) := by
  simp [tAnd]
  congr 1
  funext p
  split <;> rfl
@[simp] theorem tOr_ap (t u : M Bool) (ρ : Env) : tOr t u ρ = (t ρ).bind fun p => if p.1 then some (true, p.2) else u p.2 := by
  simp [tOr]
  congr 1
  funext p
  split <;> rfl
@[simp] theorem eAnd_ap (a b : E) (ρ : Env) : eAnd a b ρ = (tst a ρ).bind fun p => if p.1 then b p.2 else some (.bl false, p.2) := by
  unfold eAnd
  rw [bnd_ap]
  congr 1
  funext p
  split <;> rfl
@[simp] theorem eOr_ap (a b : E) (ρ : Env) : eOr a b ρ = (tst a ρ).bind fun p => if p.1 then some (.bl true, p.2) else b p.2 := by
  unfold eOr
  rw [bnd_ap]
  congr 1
  funext p
  split <;> rfl
@[simp] theorem eNot_ap (a : E) (ρ : Env) : eNot a ρ = (tst a ρ).bind fun p => some (.bl (!p.1), p.2) := by
  unfold eNot
  rw [bnd_ap]
  rfl
@[simp] theorem eIf_ap (t : M Bool) (a b : E) (ρ : Env) : eIf t a b ρ = (t ρ).bind fun p => if p.1 then a p.2 else b p.2 := by
  unfold eIf
  rw [bnd_ap]
  congr 1
  funext p
  split <;> rfl
@[simp] theorem sSeq_ap (a b : S) (ρ : Env) : sSeq a b ρ = (a ρ).bind fun p => match p.1 with
    | .nx => b p.2
    | .rt d => some (.rt d, p.2) := by
  unfold sSeq
  rw [bnd_ap]
  congr 1
  funext p
  obtain ⟨c, r⟩ := p
  cases c <;> rfl
@[simp] theorem sRet_ap (e : E) (ρ : Env) : sRet e ρ = (e ρ).bind fun p => some (.rt p.1, p.2) := by simp [sRet]
@[simp] theorem sAsg_ap (e : E) (g : T) (ρ : Env) : sAsg e g ρ = (e ρ).bind fun p => (g p.1 p.2).bind fun q => some (.nx, q.2) := by simp [sAsg]
@[simp] theorem sNew_ap (k : Nat) (e : E) (ρ : Env) : sNew k e ρ = (e ρ).bind fun p => if k < p.2.length ∧ k ≠ 0 then some (.nx, p.2.set k (.o p.1)) else none := by
  unfold sNew
  rw [bnd_ap]
@[simp] theorem sIf_ap (t : M Bool) (a b : S) (ρ : Env) : sIf t a b ρ = (t ρ).bind fun p => if p.1 then a p.2 else b p.2 := by
  unfold sIf
  rw [bnd_ap]
  congr 1
  funext p
  split <;> rfl
@[simp] theorem sEx_ap (e : E) (ρ : Env) : sEx e ρ = (e ρ).bind fun p => some (.nx, p.2) := by simp [sEx]
@[simp] theorem sNx_ap (ρ : Env) : sNx ρ = some (.nx, ρ) := rfl
@[simp] theorem sNever_ap (ρ : Env) : sNever ρ = none := rfl
@[simp] theorem tYes_ap (ρ : Env) : tYes ρ = some (true, ρ) := rfl
@[simp] theorem gs_nil (ρ : Env) : gs [] [] ρ = some ((), ρ) := rfl
@[simp] theorem gs_cons (g : T) (gr : List T) (d : D) (ds : List D) (ρ : Env) : gs (g :: gr) (d :: ds) ρ = (g d ρ).bind fun p => gs gr ds p.2 := by simp [gs]
@[simp] theorem gT_ap (ts : List T) (ds : List D) (ρ : Env) : gT ts (.tup ds) ρ = gs ts ds ρ := rfl
@[simp] theorem gSub_ap (k : Nat) (i : E) (y : D) (ρ : Env) : gSub k i y ρ = (own? k ρ).bind fun p => (i p.2).bind fun q => (own? k q.2).bind fun r => (setD r.1 q.1 y).bind fun d => putO k d r.2 := by
  unfold gSub
  simp [Option.map_eq_bind, Option.bind_assoc, Function.comp_def]
@[simp] theorem sFor_ap (i : I) (g : T) (b : S) (ρ : Env) : sFor i g b ρ = (i ρ).bind fun p => forL g b p.1 p.2 := by simp [sFor]
@[simp] theorem forL_nil (g : T) (b : S) (ρ : Env) : forL g b [] ρ = some (.nx, ρ) := rfl
theorem forL_cons (g : T) (b : S) (d : D) (ds : List D) (ρ : Env) : forL g b (d :: ds) ρ = (g d ρ).bind fun p => (b p.2).bind fun q => match q.1 with
    | .nx => forL g b ds q.2
    | .rt r => some (.rt r, q.2) := by
  rw [forL, bnd_ap]
  congr 1
  funext p
  rw [bnd_ap]
  congr 1
  funext q
  obtain ⟨c, r⟩ := q
  cases c <;> rfl
@[simp] theorem wipeE_nil (ρ : Env) : wipeE ρ [] = ρ := rfl
@[simp] theorem wipeE_cons (ρ : Env) (v : Nat) (vs : List Nat) : wipeE ρ (v :: vs) = (wipeE ρ vs).set v .u := rfl
/-- a comprehension's one turn -/
def turn (g : T) (t : M Bool) (e : E) (d : D) (ρ : Env) : Option (Option D × Env) := (g d ρ).bind fun p => (t p.2).bind fun q => if q.1 then (e q.2).bind fun r => some (some r.1, r.2) else some (none, q.2)
theorem compL_nil (vs : List Nat) (g : T) (t : M Bool) (e : E) (ρ : Env) : compL vs g t e [] ρ = some ([], ρ) := rfl
theorem compL_cons (vs : List Nat) (g : T) (t : M Bool) (e : E) (d : D) (ds : List D) (ρ : Env) : compL vs g t e (d :: ds) ρ = (turn g t e d (wipeE ρ vs)).bind fun p => (compL vs g t e ds (wipeE p.2 vs)).bind fun q => some ((match p.1 with | some y => y :: q.1 | none => q.1), q.2) := by
  have h : bnd (g d) (fun _ => bnd t fun b => if b then bnd e fun y => ret (some y) else ret none) (wipeE ρ vs) = turn g t e d (wipeE ρ vs) := by
    unfold turn
    rw [bnd_ap]
    congr 1
    funext p
    rw [bnd_ap]
    congr 1
    funext q
    obtain ⟨b, r⟩ := q
    cases b with
    | false => rfl
    | true =>
      show bnd e (fun y => ret (some y)) r = _
      rw [bnd_ap]
      rfl
  rw [compL]
  dsimp only
  rw [h]
  cases turn g t e d (wipeE ρ vs) with
  | none => rfl
  | some p =>
    obtain ⟨r, ρ'⟩ := p
    dsimp only [Option.bind_some]
    cases compL vs g t e ds (wipeE ρ' vs) with
    | none => rfl
    | some q => obtain ⟨ys, ρ''⟩ := q; rfl
theorem eComp_ap (vs : List Nat) (i : I) (g : T) (t : M Bool) (e : E) (ρ : Env) : eComp vs i g t e ρ = (i ρ).bind fun p => if p.1.length ≤ 1000000 then (compL vs g t e p.1 (wipeE p.2 vs)).bind fun q => some (.lst q.1, q.2) else none := by
  unfold eComp
  rw [bnd_ap]
  congr 1
  funext p
  by_cases h : p.1.length ≤ 1000000
  · rw [if_pos h, if_pos h, bnd_ap]
    show (some ((), wipeE p.2 vs)).bind (fun q => bnd (compL vs g t e p.1) (fun ys => ret (D.lst ys)) q.2) = _
    rw [Option.bind_some, bnd_ap]
    rfl
  · rw [if_neg h, if_neg h]
    rfl
/-- what is walked -/
@[simp] theorem iL_ap (a : E) (ρ : Env) (ds : List D) (ρ' : Env) (h : a ρ = some (.lst ds, ρ')) : iL a ρ = some (ds, ρ') := by
  unfold iL
  rw [bnd_some h]
  rfl
@[simp] theorem iT_ap (a : E) (ρ : Env) (ds : List D) (ρ' : Env) (h : a ρ = some (.tup ds, ρ')) : iT a ρ = some (ds, ρ') := by
  unfold iT
  rw [bnd_some h]
  rfl
@[simp] theorem iD_ap (a : E) (ρ : Env) (kvs : List (D × D)) (ρ' : Env) (h : a ρ = some (.dic kvs, ρ')) : iD a ρ = some (kvs.map (·.1), ρ') := by
  unfold iD
  rw [bnd_some h]
  rfl
@[simp] theorem iRng_ap (a : E) (ρ : Env) (n : Int) (ρ' : Env) (h : a ρ = some (.int n, ρ')) (h1 : -(2 ^ 40) ≤ n) (h2 : n ≤ 2 ^ 40) : iRng a ρ = some ((List.range n.toNat).map fun (j : Nat) => D.int j, ρ') := by
  unfold iRng
  rw [bnd_some h]
  dsimp only
  rw [if_pos ⟨h1, h2⟩]
  rfl
/-- a comprehension, turn by turn alike -/
theorem comp_fm {α : Type} {vs : List Nat} {g : T} {t : M Bool} {e : E} {ρ : Env} {enc : α → D} {f : α → Option D} (h0 : wipeE ρ vs = ρ) : ∀ (xs : List α), (∀ x ∈ xs, ∃ ρ', turn g t e (enc x) ρ = some (f x, ρ') ∧ wipeE ρ' vs = ρ) → compL vs g t e (xs.map enc) ρ = some (xs.filterMap f, ρ)
  | [], _ => rfl
  | x :: xs, h => by
    obtain ⟨ρ', h1, h2⟩ := h x List.mem_cons_self
    rw [List.map_cons, compL_cons, h0, h1, Option.bind_some, h2, comp_fm h0 xs fun y hy => h y (List.mem_cons_of_mem _ hy), Option.bind_some, List.filterMap_cons]
    cases f x <;> rfl
theorem comp_map {α : Type} {vs : List Nat} {g : T} {t : M Bool} {e : E} {ρ : Env} {enc : α → D} {f : α → D} (h0 : wipeE ρ vs = ρ) (xs : List α) (h : ∀ x ∈ xs, ∃ ρ', turn g t e (enc x) ρ = some (some (f x), ρ') ∧ wipeE ρ' vs = ρ) : compL vs g t e (xs.map enc) ρ = some (xs.map f, ρ) := by
  rw [comp_fm (f := fun x => some (f x)) h0 xs h, List.filterMap_eq_map']
/-- a loop's states, turn by turn -/
theorem for_inv {α : Type} {g : T} {b : S} {enc : α → D} (I : List α → Env → Prop) : ∀ (xs : List α) (ρ : Env), I xs ρ → (∀ x ys ρ, I (x :: ys) ρ → ∃ ρ1 ρ2, g (enc x) ρ = some ((), ρ1) ∧ b ρ1 = some (.nx, ρ2) ∧ I ys ρ2) → ∃ ρ', forL g b (xs.map enc) ρ = some (.nx, ρ') ∧ I [] ρ'
  | [], ρ, h, _ => ⟨ρ, rfl, h⟩
  | x :: xs, ρ, h, hs => by
    obtain ⟨ρ1, ρ2, h1, h2, h3⟩ := hs x xs ρ h
    obtain ⟨ρ', h4, h5⟩ := for_inv I xs ρ2 h3 hs
    refine ⟨ρ', ?_, h5⟩
    rw [List.map_cons, forL_cons, h1, Option.bind_some, h2, Option.bind_some]
    exact h4
/-! ### the pot -/
structure Pot (d : D) : Prop where
  ex : ∃ p0 p1 : Int, d = .lst [.int p0, .int p1] ∧ 0 ≤ p0 ∧ 0 ≤ p1 ∧ p1 < 2147483587
theorem small_of {i : Int} (h0 : -1000 ≤ i) (h1 : i < 2147483587 + 1) : small i = true := by
  unfold small
  simp
  omega
theorem m_draw {d : D} {m : Int} (h : Pot d) (h0 : 0 < m) (h1 : m < 1000) : ∃ (r : Int) (d' : D), g__law_draw d [.int m] = some (.int r, d') ∧ 0 ≤ r ∧ r < m ∧ Pot d' := by
  obtain ⟨p0, p1, rfl, k0, k1, k2⟩ := h.ex
  have s1 := small_of (i := p1) (by omega) (by omega)
  by_cases hp : 0 < p0
  · refine ⟨p0 % m, .lst [.int (p0 / m), .int p1], ?_, Int.emod_nonneg _ (by omega), Int.emod_lt_of_pos _ h0, ⟨_, _, rfl, Int.ediv_nonneg k0 (by omega), k1, k2⟩⟩
    have hm : m < 1073741824 := by omega
    simp [g__law_draw, m__law_draw, runO, envOfO, opIx, atD, opGt, bool?, a2, opDivmod, setD, setAt, hp, h0, hm]
  · let q1 := (p1 * 48271 + 17609) % 2147483587
    have b1 : 0 ≤ q1 := Int.emod_nonneg _ (by omega)
    have b2 : q1 < 2147483587 := Int.emod_lt_of_pos _ (by omega)
    have s2 := small_of (i := q1) (by omega) (by omega)
    refine ⟨(q1 * q1) % 2147483549 / 13 % m, .lst [.int p0, .int q1], ?_, Int.emod_nonneg _ (by omega), Int.emod_lt_of_pos _ h0, ⟨_, _, rfl, k0, b1, b2⟩⟩
    have e : q1 = (p1 * 48271 + 17609) % 2147483587 := rfl
    rw [e] at s2
    simp [g__law_draw, m__law_draw, runO, envOfO, opIx, atD, opGt, bool?, opMul, opAdd, opMod, opDiv, opInt, a1, setD, setAt, hp, h0, s1, s2, e]
end Pm
end
section
set_option Elab.async false
set_option linter.all false
set_option maxRecDepth 100000
set_option maxHeartbeats 4000000
/-! PmEnc: letters, words, terms as data; dicts by their keys. -/
namespace Pm
open Pd
abbrev Ltr := List Int
abbrev Wrd := List Ltr
abbrev Trm := Wrd × Ltr × Wrd
def eL (l : Ltr) : D := .tup (l.map D.int)
def eW (w : Wrd) : D := .tup (w.map eL)
def eT (t : Trm) : D := .tup [eW t.1, eL t.2.1, eW t.2.2]
/-- a key's datum -/
structure EncK {α : Type} [DecidableEq α] (e : α → D) : Prop where
  eq : ∀ a b, eqv (e a) (e b) = decide (a = b)
  key : ∀ a, isKey (e a) = true
  fl : ∀ a, flat (e a) = true
  tup : ∀ a, ∃ ds, e a = .tup ds
theorem decide_cons {α : Type} [DecidableEq α] (a b : α) (as bs : List α) : decide (a :: as = b :: bs) = (decide (a = b) && decide (as = bs)) := by
  by_cases h : a = b <;> by_cases h2 : as = bs <;> simp [h, h2]
theorem eqvs_map {α : Type} [DecidableEq α] {e : α → D} (h : ∀ a b, eqv (e a) (e b) = decide (a = b)) : ∀ as bs : List α, eqvs (as.map e) (bs.map e) = decide (as = bs)
  | [], [] => by simp [eqvs]
  | [], _ :: _ => by simp [eqvs]
  | _ :: _, [] => by simp [eqvs]
  | a :: as, b :: bs => by rw [List.map_cons, List.map_cons, eqvs, h, eqvs_map h as bs, decide_cons]
theorem isKeys_map {α : Type} {e : α → D} (h : ∀ a, isKey (e a) = true) : ∀ as : List α, isKeys (as.map e) = true
  | [] => rfl
  | a :: as => by rw [List.map_cons, isKeys, h, isKeys_map h as]; rfl
theorem flats_map {α : Type} {e : α → D} (h : ∀ a, flat (e a) = true) : ∀ as : List α, flats (as.map e) = true
  | [] => rfl
  | a :: as => by rw [List.map_cons, flats, h, flats_map h as]; rfl
theorem depths_map {α : Type} {e : α → D} {n : Nat} (h : ∀ a, depth (e a) ≤ n) : ∀ as : List α, depths (as.map e) ≤ n
  | [] => Nat.zero_le _
  | a :: as => by rw [List.map_cons, depths]; exact Nat.max_le.mpr ⟨h a, depths_map h as⟩
theorem int_eq (a b : Int) : eqv (.int a) (.int b) = decide (a = b) := by simp [eqv]
theorem encL : EncK eL where
  eq := fun a b => by unfold eL; rw [eqv, eqvs_map int_eq]
  key := fun a => by unfold eL; rw [isKey]; exact isKeys_map (fun i => by rw [isKey]) a
  fl := fun a => by unfold eL; rw [flat]; exact flats_map (fun i => by rw [flat]) a
  tup := fun a => ⟨_, rfl⟩
theorem encW : EncK eW where
  eq := fun a b => by unfold eW; rw [eqv, eqvs_map encL.eq]
  key := fun a => by unfold eW; rw [isKey]; exact isKeys_map encL.key a
  fl := fun a => by unfold eW; rw [flat]; exact flats_map encL.fl a
  tup := fun a => ⟨_, rfl⟩
theorem encT : EncK eT where
  eq := fun a b => by
    obtain ⟨a1, a2, a3⟩ := a
    obtain ⟨b1, b2, b3⟩ := b
    simp only [eT, eqv, eqvs, encW.eq, encL.eq, Prod.mk.injEq]
    by_cases h1 : a1 = b1 <;> by_cases h2 : a2 = b2 <;> by_cases h3 : a3 = b3 <;> simp [h1, h2, h3]
  key := fun a => by simp only [eT, isKey, isKeys, encW.key, encL.key]; rfl
  fl := fun a => by simp only [eT, flat, flats, encW.fl, encL.fl]; rfl
  tup := fun a => ⟨_, rfl⟩
theorem depL (l : Ltr) : depth (eL l) ≤ 1 := by
  unfold eL
  rw [depth]
  have := depths_map (e := D.int) (n := 0) (fun a => by simp [depth]) l
  omega
theorem depW (w : Wrd) : depth (eW w) ≤ 2 := by
  unfold eW
  rw [depth]
  have := depths_map (e := eL) (n := 1) depL w
  omega
theorem depT (t : Trm) : depth (eT t) ≤ 3 := by
  simp only [eT, depth, depths]
  have h1 := depW t.1
  have h2 := depL t.2.1
  have h3 := depW t.2.2
  omega
theorem EncK.k {α : Type} [DecidableEq α] {e : α → D} (h : EncK e) (a : α) : kOk (e a) = true := by
  obtain ⟨ds, hd⟩ := h.tup a
  have := h.key a
  rw [hd, isKey] at this
  rw [hd, kOk]
  exact this
/-! ### dicts -/
section
variable {α β : Type} [DecidableEq α]
def tget (m : List (α × β)) (k : α) : Option β := (m.find? fun p => decide (p.1 = k)).map (·.2)
def thas (m : List (α × β)) (k : α) : Bool := m.any fun p => decide (p.1 = k)
def tput (m : List (α × β)) (k : α) (v : β) : List (α × β) := if thas m k then m.map fun p => if p.1 = k then (p.1, v) else p else m ++ [(k, v)]
def tdrop (m : List (α × β)) (k : α) : List (α × β) := m.filter fun p => !decide (p.1 = k)
def encM (e : α → D) (f : β → D) (m : List (α × β)) : List (D × D) := m.map fun p => (e p.1, f p.2)
variable {e : α → D} {f : β → D}
theorem dget_enc (h : EncK e) (k : α) : ∀ m : List (α × β), dget (encM e f m) (e k) = (tget m k).map f
  | [] => rfl
  | p :: m => by
    have ih := dget_enc h k m
    unfold dget tget encM at *
    rw [List.map_cons, List.find?_cons, List.find?_cons]
    dsimp only
    rw [h.eq]
    cases decide (p.1 = k) with
    | true => rfl
    | false => exact ih
theorem dhas_enc (h : EncK e) (k : α) : ∀ m : List (α × β), dhas (encM e f m) (e k) = thas m k
  | [] => rfl
  | p :: m => by
    have ih := dhas_enc h k m
    unfold dhas thas encM at *
    rw [List.map_cons, List.any_cons, List.any_cons, ih]
    dsimp only
    rw [h.eq]
theorem dput_enc (h : EncK e) (k : α) (v : β) (m : List (α × β)) : dput (encM e f m) (e k) (f v) = encM e f (tput m k v) := by
  unfold dput tput
  rw [dhas_enc h]
  cases thas m k with
  | true =>
    rw [if_pos rfl, if_pos rfl]
    unfold encM
    rw [List.map_map, List.map_map]
    refine List.map_congr_left fun p _ => ?_
    simp only [Function.comp]
    rw [h.eq]
    by_cases z : p.1 = k <;> simp [z]
  | false =>
    rw [if_neg Bool.false_ne_true, if_neg Bool.false_ne_true]
    unfold encM
    rw [List.map_append]
    rfl
theorem ddrop_enc (h : EncK e) (k : α) (m : List (α × β)) : ddrop (encM e f m) (e k) = encM e f (tdrop m k) := by
  unfold ddrop tdrop encM
  rw [List.filter_map]
  congr 1
  refine List.filter_congr fun p _ => ?_
  simp only [Function.comp]
  rw [h.eq]
/-! what they hold -/
abbrev keys (m : List (α × β)) : List α := m.map (·.1)
theorem thas_iff {m : List (α × β)} {k : α} : thas m k = true ↔ k ∈ keys m := by
  unfold thas
  simp [List.any_eq_true]
theorem tget_none {m : List (α × β)} {k : α} (h : k ∉ keys m) : tget m k = none := by
  unfold tget
  rw [List.find?_eq_none.mpr]
  · rfl
  · intro p hp
    simp only [decide_eq_true_eq]
    exact fun z => h (by rw [← z]; exact List.mem_map.mpr ⟨p, hp, rfl⟩)
theorem tget_some {m : List (α × β)} {k : α} {v : β} (nd : (keys m).Nodup) (h : (k, v) ∈ m) : tget m k = some v := by
  induction m with
  | nil => cases h
  | cons p m ih =>
    rw [keys, List.map_cons, List.nodup_cons] at nd
    unfold tget
    rw [List.find?_cons]
    rcases List.mem_cons.mp h with rfl | h
    · simp
    · have : p.1 ≠ k := fun z => nd.1 (by rw [z]; exact List.mem_map.mpr ⟨_, h, rfl⟩)
      simp only [this, decide_false]
      exact ih nd.2 h
theorem tget_mem {m : List (α × β)} {k : α} {v : β} (h : tget m k = some v) : (k, v) ∈ m := by
  unfold tget at h
  rw [Option.map_eq_some_iff] at h
  obtain ⟨p, hp, rfl⟩ := h
  have h1 := List.find?_some hp
  have h2 := List.mem_of_find?_eq_some hp
  have e : p.1 = k := by simpa using h1
  rw [← e]
  exact h2
theorem keys_tput {m : List (α × β)} {k : α} {v : β} : keys (tput m k v) = if thas m k then keys m else keys m ++ [k] := by
  unfold tput keys
  split
  · rw [List.map_map]
    refine List.map_congr_left fun p _ => ?_
    simp only [Function.comp]
    split <;> rfl
  · rw [List.map_append]
    rfl
theorem nodup_tput {m : List (α × β)} {k : α} {v : β} (nd : (keys m).Nodup) : (keys (tput m k v)).Nodup := by
  rw [keys_tput]
  by_cases h : thas m k = true
  · rw [if_pos h]; exact nd
  · rw [if_neg h, List.nodup_append]
    refine ⟨nd, by simp, fun a ha b hb => ?_⟩
    rw [List.mem_singleton.mp hb]
    rintro rfl
    exact h (thas_iff.mpr ha)
theorem nodup_tdrop {m : List (α × β)} {k : α} (nd : (keys m).Nodup) : (keys (tdrop m k)).Nodup :=
  nd.sublist (List.Sublist.map _ List.filter_sublist)
theorem length_tput {m : List (α × β)} {k : α} {v : β} : (tput m k v).length ≤ m.length + 1 := by
  unfold tput
  split
  · rw [List.length_map]; omega
  · rw [List.length_append]; exact Nat.le_refl _
theorem mem_tput {m : List (α × β)} {k : α} {v : β} {p : α × β} (h : p ∈ tput m k v) : p = (k, v) ∨ p ∈ m := by
  unfold tput at h
  split at h
  · obtain ⟨q, hq, e⟩ := List.mem_map.mp h
    split at e
    · rename_i z
      left
      rw [← e, z]
    · right
      rw [← e]; exact hq
  · rcases List.mem_append.mp h with h | h
    · exact .inr h
    · exact .inl (List.mem_singleton.mp h)
end
/-! ### sums over a dict's numbers -/
section
variable {α : Type}
def sumM (X : α → Int) (m : List (α × Int)) : Int := (m.map fun p => p.2 * X p.1).sum
theorem sumM_cons (X : α → Int) (p : α × Int) (m : List (α × Int)) : sumM X (p :: m) = p.2 * X p.1 + sumM X m := by
  unfold sumM
  rw [List.map_cons, List.sum_cons]
theorem sumM_append (X : α → Int) (m n : List (α × Int)) : sumM X (m ++ n) = sumM X m + sumM X n := by
  unfold sumM
  rw [List.map_append, List.sum_append]
variable [DecidableEq α]
theorem sumM_map_ne (X : α → Int) (k : α) (v : Int) : ∀ m : List (α × Int), k ∉ keys m → sumM X (m.map fun p => if p.1 = k then (p.1, v) else p) = sumM X m
  | [], _ => rfl
  | p :: m, h => by
    rw [keys, List.map_cons, List.mem_cons, not_or] at h
    rw [List.map_cons, sumM_cons, sumM_cons, sumM_map_ne X k v m h.2, if_neg (fun z => h.1 z.symm)]
theorem sumM_tput (X : α → Int) (k : α) (v : Int) (m : List (α × Int)) (nd : (keys m).Nodup) : sumM X (tput m k v) = sumM X m + (v - (tget m k).getD 0) * X k := by
  unfold tput
  split
  · rename_i h
    induction m with
    | nil => cases h
    | cons p m ih =>
      rw [keys, List.map_cons, List.nodup_cons] at nd
      rw [List.map_cons, sumM_cons, sumM_cons]
      by_cases z : p.1 = k
      · subst z
        rw [if_pos rfl, sumM_map_ne X _ v m nd.1]
        have : tget (p :: m) p.1 = some p.2 := by
          unfold tget
          rw [List.find?_cons]
          simp
        rw [this]
        dsimp only [Option.getD_some]
        grind
      · rw [if_neg z]
        have e : tget (p :: m) k = tget m k := by
          unfold tget
          rw [List.find?_cons]
          simp [z]
        have hh : thas m k = true := by
          unfold thas at h ⊢
          rw [List.any_cons] at h
          simpa [z] using h
        rw [e, ih nd.2 hh]
        grind
  · rename_i h
    have hk : k ∉ keys m := fun z => h (thas_iff.mpr z)
    rw [sumM_append, tget_none hk]
    unfold sumM
    simp
theorem sumM_tdrop (X : α → Int) (k : α) : ∀ (m : List (α × Int)), (keys m).Nodup → sumM X (tdrop m k) = sumM X m - (tget m k).getD 0 * X k
  | [], _ => by simp [tdrop, sumM, tget]
  | p :: m, nd => by
    rw [keys, List.map_cons, List.nodup_cons] at nd
    have ih := sumM_tdrop X k m nd.2
    unfold tdrop at ih ⊢
    rw [List.filter_cons, sumM_cons]
    by_cases z : p.1 = k
    · subst z
      have h1 : tget m p.1 = none := tget_none nd.1
      have h2 : tget (p :: m) p.1 = some p.2 := by
        unfold tget
        rw [List.find?_cons]
        simp
      rw [if_neg (by simp), ih, h1, h2]
      simp
      omega
    · have e : tget (p :: m) k = tget m k := by
        unfold tget
        rw [List.find?_cons]
        simp [z]
      rw [if_pos (by simp [z]), sumM_cons, ih, e]
      omega
/-- with_less -/
def tless (m : List (α × Int)) (k : α) (v : Int) : List (α × Int) := if (tget m k).getD 0 + v = 0 then tdrop m k else tput m k ((tget m k).getD 0 + v)
theorem sumM_tless (X : α → Int) (k : α) (v : Int) (m : List (α × Int)) (nd : (keys m).Nodup) : sumM X (tless m k v) = sumM X m + v * X k := by
  unfold tless
  split
  · rename_i h
    rw [sumM_tdrop X k m nd]
    have : (tget m k).getD 0 = -v := by omega
    rw [this]
    grind
  · rw [sumM_tput X k _ m nd]
    grind
theorem nodup_tless {m : List (α × Int)} {k : α} {v : Int} (nd : (keys m).Nodup) : (keys (tless m k v)).Nodup := by
  unfold tless
  split
  · exact nodup_tdrop nd
  · exact nodup_tput nd
theorem nz_tless {m : List (α × Int)} {k : α} {v : Int} (h : ∀ p ∈ m, p.2 ≠ 0) : ∀ p ∈ tless m k v, p.2 ≠ 0 := by
  intro p hp
  unfold tless at hp
  split at hp
  · exact h p (List.mem_filter.mp hp).1
  · rename_i z
    rcases mem_tput hp with rfl | hp
    · exact z
    · exact h p hp
theorem mem_tless {m : List (α × Int)} {k : α} {v : Int} {a : α} (h : a ∈ keys (tless m k v)) : a = k ∨ a ∈ keys m := by
  obtain ⟨p, hp, rfl⟩ := List.mem_map.mp h
  unfold tless at hp
  split at hp
  · exact .inr (List.mem_map.mpr ⟨p, (List.mem_filter.mp hp).1, rfl⟩)
  · rcases mem_tput hp with rfl | hp
    · exact .inl rfl
    · exact .inr (List.mem_map.mpr ⟨p, hp, rfl⟩)
theorem length_tless {m : List (α × Int)} {k : α} {v : Int} : (tless m k v).length ≤ m.length + 1 := by
  unfold tless
  split
  · exact Nat.le_trans (List.length_filter_le _ _) (Nat.le_succ _)
  · exact length_tput
end
end Pm
end
section
set_option Elab.async false
set_option linter.all false
set_option maxRecDepth 100000
set_option maxHeartbeats 4000000
/-! PmMath: sums over parts, moves on terms, what stays. -/
namespace Pm
open Pd
def val : Ltr → Ltr → Int
  | p :: l, x :: r => x ^ p.toNat * val l r
  | _, _ => 1
def Sm : Wrd → List Ltr → Int
  | [], _ => 1
  | _ :: _, [] => 0
  | x :: w, r :: rs => val x r * Sm w rs + Sm (x :: w) rs
/-- a term's worth at a place -/
def Tv (t : Trm) (rows : List Ltr) (p : Nat) : Int := Sm t.1 (rows.take p) * val t.2.1 (rows.getD p []) * Sm t.2.2 (rows.drop (p + 1))
abbrev Prt := List (Trm × Int)
def res (P : Prt) (rows : List Ltr) (p : Nat) : Int := sumM (fun t => Tv t rows p) P
def len (t : Trm) : Nat := t.1.length + t.2.2.length
/-! ### moves -/
def mv1 : Trm → Trm
  | ([], x, [a, b]) => ([], x, [b, a])
  | ([a], x, [b]) => ([b], x, [a])
  | ([a, b], x, []) => ([b, a], x, [])
  | ([a], x, []) => ([], x, [a])
  | ([], x, [a]) => ([a], x, [])
  | t => t
def mv2 : Trm → Trm
  | ([], x, [a, b]) => ([a], x, [b])
  | ([a], x, [b]) => ([a, b], x, [])
  | ([a, b], x, []) => ([], x, [a, b])
  | t => t
/-- the shapes of a term of at most two letters aside -/
inductive Shp : Trm → Prop
  | s0 (x : Ltr) : Shp ([], x, [])
  | s1 (x a : Ltr) : Shp ([a], x, [])
  | s2 (x a : Ltr) : Shp ([], x, [a])
  | s3 (x a b : Ltr) : Shp ([a, b], x, [])
  | s4 (x a b : Ltr) : Shp ([a], x, [b])
  | s5 (x a b : Ltr) : Shp ([], x, [a, b])
theorem shp_of {t : Trm} (h : len t ≤ 2) : Shp t := by
  obtain ⟨l, x, r⟩ := t
  unfold len at h
  match l, r, h with
  | [], [], _ => exact .s0 x
  | [a], [], _ => exact .s1 x a
  | [], [a], _ => exact .s2 x a
  | [a, b], [], _ => exact .s3 x a b
  | [a], [b], _ => exact .s4 x a b
  | [], [a, b], _ => exact .s5 x a b
  | [], _ :: _ :: _ :: _, h => simp at h
  | [_], _ :: _ :: _, h => simp at h; omega
  | [_, _], _ :: _, h => simp at h; omega
  | _ :: _ :: _ :: _, _, h => simp at h; omega
theorem mv1_mv1 {t : Trm} (h : len t ≤ 2) : mv1 (mv1 t) = t := by cases shp_of h <;> rfl
theorem mv2_mv2 {t : Trm} (h : len t ≤ 2) : mv2 (mv2 (mv2 t)) = t := by cases shp_of h <;> rfl
theorem len_mv1 {t : Trm} (h : len t ≤ 2) : len (mv1 t) = len t := by cases shp_of h <;> rfl
theorem len_mv2 {t : Trm} (h : len t ≤ 2) : len (mv2 t) = len t := by cases shp_of h <;> rfl
/-- closed by a move -/
def Cl (σ : Trm → Trm) (P : Prt) : Prop := ∀ t v, (t, v) ∈ P → (σ t, v) ∈ P
structure OkP (P : Prt) : Prop where
  nd : (keys P).Nodup
  short : ∀ p ∈ P, len p.1 ≤ 2
theorem nodup_of_keys {α β : Type} {m : List (α × β)} (h : (m.map (·.1)).Nodup) : m.Nodup := by
  induction m with
  | nil => exact List.nodup_nil
  | cons p m ih =>
    rw [List.map_cons, List.nodup_cons] at h
    rw [List.nodup_cons]
    exact ⟨fun z => h.1 (List.mem_map.mpr ⟨p, z, rfl⟩), ih h.2⟩
theorem perm_of {α : Type} [DecidableEq α] : ∀ {a b : List α}, a.Nodup → b.Nodup → (∀ x, x ∈ a ↔ x ∈ b) → a.Perm b
  | [], b, _, _, h => by
    cases b with
    | nil => exact .nil
    | cons y b => exact absurd ((h y).mpr List.mem_cons_self) (by simp)
  | x :: a, b, ha, hb, h => by
    rw [List.nodup_cons] at ha
    have hx : x ∈ b := (h x).mp List.mem_cons_self
    have p := List.perm_cons_erase hx
    refine (List.Perm.cons x (perm_of ha.2 (hb.erase x) fun y => ?_)).trans p.symm
    rw [hb.mem_erase_iff]
    constructor
    · intro hy
      exact ⟨fun z => ha.1 (by rw [← z]; exact hy), (h y).mp (List.mem_cons_of_mem _ hy)⟩
    · rintro ⟨h1, h2⟩
      rcases List.mem_cons.mp ((h y).mpr h2) with z | z
      · exact absurd z h1
      · exact z
theorem sumM_perm {α : Type} (X : α → Int) {m n : List (α × Int)} (h : m.Perm n) : sumM X m = sumM X n := by
  induction h with
  | nil => rfl
  | cons p _ ih => rw [sumM_cons, sumM_cons, ih]
  | swap p q m => rw [sumM_cons, sumM_cons, sumM_cons, sumM_cons]; omega
  | trans _ _ h1 h2 => exact h1.trans h2
theorem sumM_congr {α : Type} {X Y : α → Int} {m : List (α × Int)} (h : ∀ p ∈ m, X p.1 = Y p.1) : sumM X m = sumM Y m := by
  induction m with
  | nil => rfl
  | cons p m ih => rw [sumM_cons, sumM_cons, h p List.mem_cons_self, ih fun q hq => h q (List.mem_cons_of_mem _ hq)]
theorem sum_move {P : Prt} (ok : OkP P) (X : Trm → Int) {σ τ : Trm → Trm} (h1 : ∀ t, len t ≤ 2 → τ (σ t) = t) (h2 : ∀ t, len t ≤ 2 → σ (τ t) = t) (c1 : Cl σ P) (c2 : Cl τ P) : sumM X P = sumM (fun t => X (σ t)) P := by
  have e : sumM (fun t => X (σ t)) P = sumM X (P.map fun p => (σ p.1, p.2)) := by
    unfold sumM
    rw [List.map_map]
    rfl
  rw [e]
  refine sumM_perm X (perm_of (nodup_of_keys ok.nd) (nodup_of_keys ?_) fun p => ?_)
  · rw [List.map_map]
    have : (P.map fun p => σ p.1).Nodup := by
      have e2 : (P.map fun p => σ p.1) = (keys P).map σ := by rw [keys, List.map_map]; rfl
      rw [e2]
      refine List.Pairwise.map σ (R := fun a b => a ∈ keys P ∧ b ∈ keys P ∧ a ≠ b) (fun a b hab z => ?_) ?_
      · obtain ⟨ha, hb, ne⟩ := hab
        obtain ⟨p, hp, rfl⟩ := List.mem_map.mp ha
        obtain ⟨q, hq, rfl⟩ := List.mem_map.mp hb
        exact ne (by rw [← h1 p.1 (ok.short p hp), z, h1 q.1 (ok.short q hq)])
      · exact List.Pairwise.imp_of_mem (fun ha hb h => ⟨ha, hb, h⟩) ok.nd
    exact this
  · constructor
    · intro hp
      exact List.mem_map.mpr ⟨(τ p.1, p.2), c2 p.1 p.2 hp, by rw [h2 p.1 (ok.short p hp)]⟩
    · intro hp
      obtain ⟨q, hq, rfl⟩ := List.mem_map.mp hp
      exact c1 q.1 q.2 hq
/-- the six moves' sum -/
def six (X : Trm → Int) (t : Trm) : Int := X t + X (mv2 t) + X (mv2 (mv2 t)) + (X (mv1 t) + X (mv2 (mv1 t)) + X (mv2 (mv2 (mv1 t))))
theorem sumM_add {α : Type} (X Y : α → Int) (m : List (α × Int)) : sumM (fun t => X t + Y t) m = sumM X m + sumM Y m := by
  induction m with
  | nil => rfl
  | cons p m ih => rw [sumM_cons, sumM_cons, sumM_cons, ih]; grind
theorem sum_six {P : Prt} (ok : OkP P) (c1 : Cl mv1 P) (c2 : Cl mv2 P) (X : Trm → Int) : sumM (six X) P = 6 * sumM X P := by
  have c22 : Cl (fun t => mv2 (mv2 t)) P := fun t v h => c2 _ _ (c2 _ _ h)
  have m2 : ∀ X : Trm → Int, sumM X P = sumM (fun t => X (mv2 t)) P := fun X => sum_move ok X (σ := mv2) (τ := fun t => mv2 (mv2 t)) (fun t h => mv2_mv2 h) (fun t h => mv2_mv2 h) c2 c22
  have m1 : ∀ X : Trm → Int, sumM X P = sumM (fun t => X (mv1 t)) P := fun X => sum_move ok X (σ := mv1) (τ := mv1) (fun t h => mv1_mv1 h) (fun t h => mv1_mv1 h) c1 c1
  have a1 := m2 X
  have a2 := m2 fun t => X (mv2 t)
  have a3 := m1 X
  have a4 := m1 fun t => X (mv2 t)
  have a5 := m1 fun t => X (mv2 (mv2 t))
  unfold six
  rw [sumM_add, sumM_add, sumM_add, sumM_add, sumM_add]
  omega
end Pm
end
section
set_option Elab.async false
set_option linter.all false
set_option maxRecDepth 100000
set_option maxHeartbeats 4000000
/-! PmMath2: free parts: results follow the rows' order. -/
namespace Pm
open Pd
def G3 : Trm → Ltr → Ltr → Ltr → Int
  | ([], x, []), c, _, _ => 6 * val x c
  | ([a], x, []), c, b, d => 3 * ((val a b + val a d) * val x c)
  | ([], x, [a]), c, b, d => 3 * ((val a b + val a d) * val x c)
  | ([a, e], x, []), c, b, d => (val a b * val e d + val e b * val a d) * val x c
  | ([a], x, [e]), c, b, d => (val a b * val e d + val e b * val a d) * val x c
  | ([], x, [a, e]), c, b, d => (val a b * val e d + val e b * val a d) * val x c
  | _, _, _, _ => 0
def G2 : Trm → Ltr → Ltr → Int
  | ([], x, []), c, _ => 6 * val x c
  | ([a], x, []), c, b => 3 * (val a b * val x c)
  | ([], x, [a]), c, b => 3 * (val a b * val x c)
  | _, _, _ => 0
theorem G3_symm {t : Trm} (h : len t ≤ 2) (c b d : Ltr) : G3 t c b d = G3 t c d b := by
  cases shp_of h <;> simp only [G3] <;> grind
theorem six30 {t : Trm} (h : len t ≤ 2) (r s u : Ltr) : six (fun t => Tv t [r, s, u] 0) t = G3 t r s u := by
  cases shp_of h <;> simp [six, Tv, mv1, mv2, Sm, G3] <;> grind
theorem six31 {t : Trm} (h : len t ≤ 2) (r s u : Ltr) : six (fun t => Tv t [r, s, u] 1) t = G3 t s r u := by
  cases shp_of h <;> simp [six, Tv, mv1, mv2, Sm, G3] <;> grind
theorem six32 {t : Trm} (h : len t ≤ 2) (r s u : Ltr) : six (fun t => Tv t [r, s, u] 2) t = G3 t u r s := by
  cases shp_of h <;> simp [six, Tv, mv1, mv2, Sm, G3] <;> grind
theorem six20 {t : Trm} (h : len t ≤ 2) (r s : Ltr) : six (fun t => Tv t [r, s] 0) t = G2 t r s := by
  cases shp_of h <;> simp [six, Tv, mv1, mv2, Sm, G2] <;> grind
theorem six21 {t : Trm} (h : len t ≤ 2) (r s : Ltr) : six (fun t => Tv t [r, s] 1) t = G2 t s r := by
  cases shp_of h <;> simp [six, Tv, mv1, mv2, Sm, G2] <;> grind
section
variable {P : Prt} (ok : OkP P) (c1 : Cl mv1 P) (c2 : Cl mv2 P)
theorem res_six {X Y : Trm → Int} (ok : OkP P) (c1 : Cl mv1 P) (c2 : Cl mv2 P) (h : ∀ t, len t ≤ 2 → six X t = six Y t) : sumM X P = sumM Y P := by
  have h1 := sum_six ok c1 c2 X
  have h2 := sum_six ok c1 c2 Y
  have h3 : sumM (six X) P = sumM (six Y) P := sumM_congr fun p hp => h p.1 (ok.short p hp)
  omega
include ok c1 c2
theorem fr3 (r s u : Ltr) : res P [r, s, u] 0 = res P [r, u, s] 0 ∧ res P [r, s, u] 0 = res P [s, r, u] 1 ∧ res P [r, s, u] 0 = res P [u, r, s] 1 ∧ res P [r, s, u] 0 = res P [s, u, r] 2 ∧ res P [r, s, u] 0 = res P [u, s, r] 2 := by
  refine ⟨?_, ?_, ?_, ?_, ?_⟩ <;> refine res_six ok c1 c2 fun t h => ?_
  · rw [six30 h, six30 h]; exact G3_symm h _ _ _
  · rw [six30 h, six31 h]
  · rw [six30 h, six31 h]; exact G3_symm h _ _ _
  · rw [six30 h, six32 h]
  · rw [six30 h, six32 h]; exact G3_symm h _ _ _
theorem fr2 (r s : Ltr) : res P [r, s] 0 = res P [s, r] 1 := res_six ok c1 c2 fun t h => by rw [six20 h, six21 h]
end
end Pm
end
section
set_option Elab.async false
set_option linter.all false
set_option maxRecDepth 100000
set_option maxHeartbeats 4000000
/-! PmMath3: exchanges: where parts are unlike, and what the sums say of it. -/
namespace Pm
open Pd
def exch {α : Type} : List α → Nat → List α
  | a :: b :: l, 0 => b :: a :: l
  | a :: l, k + 1 => a :: exch l k
  | l, _ => l
def mvd (p k : Nat) : Nat := if p = k then k + 1 else if p = k + 1 then k else p
def word (t : Trm) : Wrd := t.1 ++ t.2.1 :: t.2.2
def place (t : Trm) : Nat := t.1.length
theorem wp_inj {t u : Trm} (h1 : word t = word u) (h2 : place t = place u) : t = u := by
  obtain ⟨l, x, r⟩ := t
  obtain ⟨l', x', r'⟩ := u
  obtain ⟨e1, e2⟩ := List.append_inj h1 h2
  obtain ⟨e3, e4⟩ := List.cons.inj e2
  have e1 : l = l' := e1
  have e3 : x = x' := e3
  have e4 : r = r' := e4
  rw [e1, e3, e4]
theorem exch_exch {α : Type} : ∀ (l : List α) (k : Nat), exch (exch l k) k = l
  | [], 0 => rfl
  | [], _ + 1 => rfl
  | [_], 0 => rfl
  | _ :: _ :: _, 0 => rfl
  | a :: l, k + 1 => by rw [exch, exch, exch_exch l k]
/-- unlike_at -/
def unlS (pos k : Nat) (m : List (Wrd × Int)) (e : Trm × Int) : List (Wrd × Int) :=
  let m1 := if place e.1 = pos then tless m (word e.1) e.2 else m
  if place e.1 = mvd pos k then tless m1 (exch (word e.1) k) (-e.2) else m1
def unl (M : Prt) (pos k : Nat) : List (Wrd × Int) := M.foldl (unlS pos k) []
def dif (X : Wrd → Int) (pos k : Nat) (t : Trm) : Int := (if place t = pos then X (word t) else 0) - (if place t = mvd pos k then X (exch (word t) k) else 0)
theorem nodup_unlS {pos k : Nat} {m : List (Wrd × Int)} {e : Trm × Int} (nd : (keys m).Nodup) : (keys (unlS pos k m e)).Nodup := by
  unfold unlS
  dsimp only
  have h1 : (keys (if place e.1 = pos then tless m (word e.1) e.2 else m)).Nodup := by
    split
    · exact nodup_tless nd
    · exact nd
  split
  · exact nodup_tless h1
  · exact h1
theorem nz_unlS {pos k : Nat} {m : List (Wrd × Int)} {e : Trm × Int} (nd : ∀ p ∈ m, p.2 ≠ 0) : ∀ p ∈ unlS pos k m e, p.2 ≠ 0 := by
  unfold unlS
  dsimp only
  have h1 : ∀ p ∈ (if place e.1 = pos then tless m (word e.1) e.2 else m), p.2 ≠ 0 := by
    split
    · exact nz_tless nd
    · exact nd
  split
  · exact nz_tless h1
  · exact h1
theorem sum_unlS (X : Wrd → Int) {pos k : Nat} {m : List (Wrd × Int)} {e : Trm × Int} (nd : (keys m).Nodup) : sumM X (unlS pos k m e) = sumM X m + e.2 * dif X pos k e.1 := by
  unfold unlS dif
  dsimp only
  by_cases h1 : place e.1 = pos <;> by_cases h2 : place e.1 = mvd pos k
  · rw [if_pos h1, if_pos h1, if_pos h2, if_pos h2, sumM_tless X _ _ _ (nodup_tless nd), sumM_tless X _ _ _ nd]
    grind
  · rw [if_pos h1, if_pos h1, if_neg h2, if_neg h2, sumM_tless X _ _ _ nd]
    grind
  · rw [if_neg h1, if_neg h1, if_pos h2, if_pos h2, sumM_tless X _ _ _ nd]
    grind
  · rw [if_neg h1, if_neg h1, if_neg h2, if_neg h2]
    grind
theorem unl_all (pos k : Nat) : ∀ (M : Prt) (m : List (Wrd × Int)), (keys m).Nodup → (∀ p ∈ m, p.2 ≠ 0) → (keys (M.foldl (unlS pos k) m)).Nodup ∧ (∀ p ∈ M.foldl (unlS pos k) m, p.2 ≠ 0) ∧ ∀ X, sumM X (M.foldl (unlS pos k) m) = sumM X m + sumM (dif X pos k) M
  | [], m, nd, nz => ⟨nd, nz, fun X => by show sumM X m = sumM X m + 0; omega⟩
  | e :: M, m, nd, nz => by
    obtain ⟨h1, h2, h3⟩ := unl_all pos k M (unlS pos k m e) (nodup_unlS nd) (nz_unlS nz)
    refine ⟨h1, h2, fun X => ?_⟩
    rw [List.foldl_cons, h3, sum_unlS X nd, sumM_cons]
    omega
theorem unl_ok (M : Prt) (pos k : Nat) : (keys (unl M pos k)).Nodup ∧ (∀ p ∈ unl M pos k, p.2 ≠ 0) ∧ ∀ X, sumM X (unl M pos k) = sumM (dif X pos k) M := by
  obtain ⟨h1, h2, h3⟩ := unl_all pos k M [] List.nodup_nil (fun p hp => by cases hp)
  exact ⟨h1, h2, fun X => by rw [unl, h3]; show 0 + _ = _; omega⟩
theorem sum_ind {α : Type} [DecidableEq α] (k : α) : ∀ m : List (α × Int), (keys m).Nodup → sumM (fun t => if t = k then 1 else 0) m = (tget m k).getD 0
  | [], _ => rfl
  | p :: m, nd => by
    rw [keys, List.map_cons, List.nodup_cons] at nd
    rw [sumM_cons, sum_ind k m nd.2]
    by_cases z : p.1 = k
    · have : tget m k = none := tget_none (by rw [← z]; exact nd.1)
      rw [this, if_pos z]
      unfold tget
      rw [List.find?_cons]
      simp [z]
    · rw [if_neg z]
      have : tget (p :: m) k = tget m k := by
        unfold tget
        rw [List.find?_cons]
        simp [z]
      rw [this]
      omega
theorem sumM_sub {α : Type} (X Y : α → Int) (m : List (α × Int)) : sumM (fun t => X t - Y t) m = sumM X m - sumM Y m := by
  induction m with
  | nil => rfl
  | cons p m ih => rw [sumM_cons, sumM_cons, sumM_cons, ih]; grind
/-- one exchange -/
theorem unl_step {P : Prt} (nd : (keys P).Nodup) (nz : ∀ p ∈ P, p.2 ≠ 0) {pos k : Nat} (h : unl P pos k = []) {t u : Trm} {v : Int} (ht : (t, v) ∈ P) (h1 : place t = pos) (h2 : place u = mvd pos k) (h3 : exch (word u) k = word t) : (u, v) ∈ P := by
  obtain ⟨_, _, h4⟩ := unl_ok P pos k
  have h5 := h4 fun w => if w = word t then 1 else 0
  rw [h] at h5
  have e1 : sumM (dif (fun w => if w = word t then 1 else 0) pos k) P = sumM (fun s => (if s = t then 1 else 0) - (if s = u then 1 else 0)) P := by
    refine sumM_congr fun p _ => ?_
    unfold dif
    have a1 : (if place p.1 = pos then (if word p.1 = word t then (1 : Int) else 0) else 0) = if p.1 = t then 1 else 0 := by
      by_cases z : p.1 = t
      · rw [z, if_pos h1, if_pos rfl, if_pos rfl]
      · rw [if_neg z]
        split
        · rename_i z1
          rw [if_neg fun z2 => z (wp_inj z2 (z1.trans h1.symm))]
        · rfl
    have a2 : (if place p.1 = mvd pos k then (if exch (word p.1) k = word t then (1 : Int) else 0) else 0) = if p.1 = u then 1 else 0 := by
      by_cases z : p.1 = u
      · rw [z, if_pos h2, if_pos h3, if_pos rfl]
      · rw [if_neg z]
        split
        · rename_i z1
          rw [if_neg fun z2 => z (wp_inj (by rw [← exch_exch (word p.1) k, z2, ← h3, exch_exch]) (z1.trans h2.symm))]
        · rfl
    rw [a1, a2]
  rw [e1, sumM_sub, sum_ind t P nd, sum_ind u P nd, tget_some nd ht] at h5
  have h6 : (0 : Int) = v - (tget P u).getD 0 := h5
  have hv := nz _ ht
  cases e : tget P u with
  | none => rw [e] at h6; simp at h6; exact absurd h6.symm hv
  | some w =>
    rw [e] at h6
    have : w = v := by
      have : (0 : Int) = v - w := h6
      omega
    rw [← this]
    exact tget_mem e
/-- no exchange: closed -/
theorem cl_of1 {P : Prt} (nd : (keys P).Nodup) (nz : ∀ p ∈ P, p.2 ≠ 0) (hl : ∀ p ∈ P, len p.1 = 1) (h : ∀ pos, pos < 2 → unl P pos 0 = []) : Cl mv1 P ∧ Cl mv2 P := by
  refine ⟨fun t v ht => ?_, fun t v ht => ?_⟩
  · have h1 := hl _ ht
    cases shp_of (t := t) (by have : len t = 1 := h1; omega) with
    | s1 x a => exact unl_step nd nz (h 1 (by omega)) ht rfl rfl rfl
    | s2 x a => exact unl_step nd nz (h 0 (by omega)) ht rfl rfl rfl
    | _ => simp [len] at h1
  · have h1 := hl _ ht
    cases shp_of (t := t) (by have : len t = 1 := h1; omega) with
    | s1 x a => exact ht
    | s2 x a => exact ht
    | _ => simp [len] at h1
theorem cl_of2 {P : Prt} (nd : (keys P).Nodup) (nz : ∀ p ∈ P, p.2 ≠ 0) (hl : ∀ p ∈ P, len p.1 = 2) (h : ∀ pos, pos < 3 → ∀ k, k < 2 → unl P pos k = []) : Cl mv1 P ∧ Cl mv2 P := by
  have st : ∀ {pos k : Nat} {t u : Trm} {v : Int}, pos < 3 → k < 2 → (t, v) ∈ P → place t = pos → place u = mvd pos k → exch (word u) k = word t → (u, v) ∈ P := fun h1 h2 ht a b c => unl_step nd nz (h _ h1 _ h2) ht a b c
  have a0 : ∀ x a b v, (([], x, [a, b]), v) ∈ P → (([a], x, [b]), v) ∈ P := fun x a b v ht => st (pos := 0) (k := 0) (by omega) (by omega) ht rfl rfl rfl
  have a0' : ∀ x a b v, (([a], x, [b]), v) ∈ P → (([], x, [a, b]), v) ∈ P := fun x a b v ht => st (pos := 1) (k := 0) (by omega) (by omega) ht rfl rfl rfl
  have b0 : ∀ x a b v, (([], x, [a, b]), v) ∈ P → (([], x, [b, a]), v) ∈ P := fun x a b v ht => st (pos := 0) (k := 1) (by omega) (by omega) ht rfl rfl rfl
  have c0 : ∀ x a b v, (([a], x, [b]), v) ∈ P → (([a, b], x, []), v) ∈ P := fun x a b v ht => st (pos := 1) (k := 1) (by omega) (by omega) ht rfl rfl rfl
  have c0' : ∀ x a b v, (([a, b], x, []), v) ∈ P → (([a], x, [b]), v) ∈ P := fun x a b v ht => st (pos := 2) (k := 1) (by omega) (by omega) ht rfl rfl rfl
  have d0 : ∀ x a b v, (([a, b], x, []), v) ∈ P → (([b, a], x, []), v) ∈ P := fun x a b v ht => st (pos := 2) (k := 0) (by omega) (by omega) ht rfl rfl rfl
  refine ⟨fun t v ht => ?_, fun t v ht => ?_⟩
  · have h1 := hl _ ht
    cases shp_of (t := t) (by have : len t = 2 := h1; omega) with
    | s3 x a b => exact d0 x a b v ht
    | s4 x a b => exact a0 x b a v (b0 x a b v (a0' x a b v ht))
    | s5 x a b => exact b0 x a b v ht
    | s0 x => cases h1
    | s1 x a => cases h1
    | s2 x a => cases h1
  · have h1 := hl _ ht
    cases shp_of (t := t) (by have : len t = 2 := h1; omega) with
    | s3 x a b => exact a0' x a b v (c0' x a b v ht)
    | s4 x a b => exact c0 x a b v ht
    | s5 x a b => exact a0 x a b v ht
    | s0 x => cases h1
    | s1 x a => cases h1
    | s2 x a => cases h1
end Pm
end
section
set_option Elab.async false
set_option linter.all false
set_option maxRecDepth 100000
set_option maxHeartbeats 4000000
/-! PmMath4: unlike results by the unlike sums. -/
namespace Pm
open Pd
def Ev : Wrd → List Ltr → Int
  | x :: w, r :: rs => val x r * Ev w rs
  | _, _ => 1
theorem sumM_split {α : Type} (X : α → Int) (q : α → Bool) : ∀ m : List (α × Int), sumM X m = sumM X (m.filter fun p => q p.1) + sumM X (m.filter fun p => !q p.1)
  | [] => rfl
  | p :: m => by
    rw [List.filter_cons, List.filter_cons, sumM_cons, sumM_split X q m]
    cases q p.1 <;> simp [sumM_cons] <;> omega
theorem sumM_zero {α : Type} {X : α → Int} {m : List (α × Int)} (h : ∀ p ∈ m, X p.1 = 0) : sumM X m = 0 := by
  induction m with
  | nil => rfl
  | cons p m ih => rw [sumM_cons, h p List.mem_cons_self, ih fun q hq => h q (List.mem_cons_of_mem _ hq)]; omega
def low (n : Nat) (P : Prt) : Prt := P.filter fun p => decide (len p.1 < n)
def eqn (n : Nat) (P : Prt) : Prt := P.filter fun p => decide (len p.1 = n)
theorem split3 (n : Nat) (P : Prt) (X : Trm → Int) : sumM X P = sumM X (low n P) + sumM X (eqn n P) + sumM X (P.filter fun p => decide (n < len p.1)) := by
  rw [sumM_split X (fun t => decide (len t < n)) P, sumM_split X (fun t => decide (len t = n)) (P.filter fun p => !decide (len p.1 < n))]
  have e1 : (P.filter fun p => !decide (len p.1 < n)).filter (fun p => decide (len p.1 = n)) = eqn n P := by
    unfold eqn
    rw [List.filter_filter]
    refine List.filter_congr fun p _ => ?_
    by_cases h : len p.1 = n <;> simp [h]
  have e2 : (P.filter fun p => !decide (len p.1 < n)).filter (fun p => !decide (len p.1 = n)) = P.filter fun p => decide (n < len p.1) := by
    rw [List.filter_filter]
    refine List.filter_congr fun p _ => ?_
    by_cases h : n < len p.1
    · have h1 : ¬ len p.1 = n := by omega
      have h2 : ¬ len p.1 < n := by omega
      simp [h, h1, h2]
    · by_cases h1 : len p.1 = n
      · simp [h1]
      · have h2 : len p.1 < n := by omega
        simp [h1, h2]
        omega
  rw [e1, e2]
  unfold low
  omega
theorem gt_zero {P : Prt} (hs : ∀ p ∈ P, len p.1 ≤ 2) (r s : Ltr) {q : Nat} (hq : q < 2) : sumM (fun t => Tv t [r, s] q) (P.filter fun p => decide (1 < len p.1)) = 0 := by
  refine sumM_zero fun p hp' => ?_
  obtain ⟨hm, hl⟩ := List.mem_filter.mp hp'
  obtain ⟨t, v⟩ := p
  have hl : 1 < len t := of_decide_eq_true hl
  match q, hq with
  | 0, _ => cases shp_of (hs _ hm) <;> first | (simp [Tv, Sm]; done) | (simp [len] at hl; done)
  | 1, _ => cases shp_of (hs _ hm) <;> first | (simp [Tv, Sm]; done) | (simp [len] at hl; done)
theorem main2 {P : Prt} (ok : OkP P) (r s : Ltr) {pos : Nat} (hp : pos < 2) : res P [r, s] pos - res P (exch [r, s] 0) (mvd pos 0) = sumM (fun w => Ev w [r, s]) (unl (eqn 1 P) pos 0) := by
  have hs : ∀ p ∈ P, len p.1 ≤ 2 := ok.short
  have h1 : sumM (fun t => Tv t [r, s] pos) (low 1 P) = sumM (fun t => Tv t (exch [r, s] 0) (mvd pos 0)) (low 1 P) := by
    refine sumM_congr fun p hp' => ?_
    obtain ⟨hm, hl⟩ := List.mem_filter.mp hp'
    have hl : len p.1 < 1 := of_decide_eq_true hl
    obtain ⟨t, v⟩ := p
    have hl : len t < 1 := hl
    match pos, hp with
    | 0, _ => cases shp_of (hs _ hm) <;> first | (simp [Tv, exch, mvd, Sm]; done) | (simp [len] at hl; done)
    | 1, _ => cases shp_of (hs _ hm) <;> first | (simp [Tv, exch, mvd, Sm]; done) | (simp [len] at hl; done)
  have h2 := gt_zero hs r s hp
  have h3 : sumM (fun t => Tv t (exch [r, s] 0) (mvd pos 0)) (P.filter fun p => decide (1 < len p.1)) = 0 := by
    match pos, hp with
    | 0, _ => exact gt_zero hs s r (q := 1) (by omega)
    | 1, _ => exact gt_zero hs s r (q := 0) (by omega)
  have h4 : sumM (fun t => Tv t [r, s] pos) (eqn 1 P) - sumM (fun t => Tv t (exch [r, s] 0) (mvd pos 0)) (eqn 1 P) = sumM (dif (fun w => Ev w [r, s]) pos 0) (eqn 1 P) := by
    rw [← sumM_sub]
    refine sumM_congr fun p hp' => ?_
    obtain ⟨hm, hl⟩ := List.mem_filter.mp hp'
    obtain ⟨t, v⟩ := p
    have hl : len t = 1 := of_decide_eq_true hl
    match pos, hp with
    | 0, _ => cases shp_of (hs _ hm) <;> first | (simp [len] at hl; done) | (simp [Tv, exch, mvd, Sm, dif, place, word, Ev] <;> grind)
    | 1, _ => cases shp_of (hs _ hm) <;> first | (simp [len] at hl; done) | (simp [Tv, exch, mvd, Sm, dif, place, word, Ev] <;> grind)
  rw [(unl_ok (eqn 1 P) pos 0).2.2, ← h4]
  unfold res
  rw [split3 1 P, split3 1 P]
  omega
theorem ok_filter {P : Prt} (ok : OkP P) (q : Trm × Int → Bool) : OkP (P.filter q) := ⟨ok.nd.sublist (List.Sublist.map _ List.filter_sublist), fun p hp => ok.short p (List.mem_filter.mp hp).1⟩
theorem main3 {P : Prt} (ok : OkP P) (c1 : Cl mv1 (low 2 P)) (c2 : Cl mv2 (low 2 P)) (r s u : Ltr) {pos k : Nat} (hp : pos < 3) (hk : k < 2) : res P [r, s, u] pos - res P (exch [r, s, u] k) (mvd pos k) = sumM (fun w => Ev w [r, s, u]) (unl (eqn 2 P) pos k) := by
  have hs : ∀ p ∈ P, len p.1 ≤ 2 := ok.short
  have f := fr3 (ok_filter ok _) c1 c2
  have h1 : res (low 2 P) [r, s, u] pos = res (low 2 P) (exch [r, s, u] k) (mvd pos k) := by
    obtain ⟨a1, a2, a3, a4, a5⟩ := f r s u
    obtain ⟨b1, b2, b3, b4, b5⟩ := f s r u
    obtain ⟨d1, d2, d3, d4, d5⟩ := f u r s
    match pos, hp, k, hk with
    | 0, _, 0, _ => exact a2
    | 0, _, 1, _ => exact a1
    | 1, _, 0, _ => exact b2.symm
    | 1, _, 1, _ => exact b2.symm.trans b4
    | 2, _, 0, _ => exact d4.symm.trans d5
    | 2, _, 1, _ => exact d4.symm.trans d2
  have h2 : (P.filter fun p => decide (2 < len p.1)) = [] := by
    rw [List.filter_eq_nil_iff]
    intro p hp' z
    have := hs p hp'
    have : 2 < len p.1 := of_decide_eq_true z
    omega
  have h4 : sumM (fun t => Tv t [r, s, u] pos) (eqn 2 P) - sumM (fun t => Tv t (exch [r, s, u] k) (mvd pos k)) (eqn 2 P) = sumM (dif (fun w => Ev w [r, s, u]) pos k) (eqn 2 P) := by
    rw [← sumM_sub]
    refine sumM_congr fun p hp' => ?_
    obtain ⟨hm, hl⟩ := List.mem_filter.mp hp'
    obtain ⟨t, v⟩ := p
    have hl : len t = 2 := of_decide_eq_true hl
    match pos, hp, k, hk with
    | 0, _, 0, _ => cases shp_of (hs _ hm) <;> first | (simp [len] at hl; done) | (simp [Tv, exch, mvd, Sm, dif, place, word, Ev] <;> grind)
    | 0, _, 1, _ => cases shp_of (hs _ hm) <;> first | (simp [len] at hl; done) | (simp [Tv, exch, mvd, Sm, dif, place, word, Ev] <;> grind)
    | 1, _, 0, _ => cases shp_of (hs _ hm) <;> first | (simp [len] at hl; done) | (simp [Tv, exch, mvd, Sm, dif, place, word, Ev] <;> grind)
    | 1, _, 1, _ => cases shp_of (hs _ hm) <;> first | (simp [len] at hl; done) | (simp [Tv, exch, mvd, Sm, dif, place, word, Ev] <;> grind)
    | 2, _, 0, _ => cases shp_of (hs _ hm) <;> first | (simp [len] at hl; done) | (simp [Tv, exch, mvd, Sm, dif, place, word, Ev] <;> grind)
    | 2, _, 1, _ => cases shp_of (hs _ hm) <;> first | (simp [len] at hl; done) | (simp [Tv, exch, mvd, Sm, dif, place, word, Ev] <;> grind)
  have h5 : sumM (fun t => Tv t [r, s, u] pos) (low 2 P) = sumM (fun t => Tv t (exch [r, s, u] k) (mvd pos k)) (low 2 P) := h1
  rw [(unl_ok (eqn 2 P) pos k).2.2, ← h4]
  unfold res
  rw [split3 2 P, split3 2 P, h2]
  have z : ∀ X : Trm → Int, sumM X ([] : Prt) = 0 := fun X => rfl
  rw [z, z]
  omega
end Pm
end
section
set_option Elab.async false
set_option linter.all false
set_option maxRecDepth 100000
set_option maxHeartbeats 4000000
/-! PmRows: numbers for a polynomial that is not 0. -/
namespace Pm
open Pd
def getw (w : Wrd) (j k : Nat) : Int := (w.getD j []).getD k 0
def setz (w : Wrd) (j k : Nat) : Wrd := w.set j ((w.getD j []).set k 0)
abbrev Sums := List (Wrd × Int)
def atS (j k : Nat) (v : Int) (f : Sums) (e : Wrd × Int) : Sums := if getw e.1 j k = 0 ∨ v ≠ 0 then tless f (setz e.1 j k) (e.2 * v ^ (getw e.1 j k).toNat) else f
def atn (m : Sums) (j k : Nat) (v : Int) : Sums := m.foldl (atS j k v) []
theorem at_all (j k : Nat) (v : Int) : ∀ (m f : Sums), (∀ p ∈ m, 0 ≤ getw p.1 j k) → (keys f).Nodup → (∀ p ∈ f, p.2 ≠ 0) →
    (keys (m.foldl (atS j k v) f)).Nodup ∧ (∀ p ∈ m.foldl (atS j k v) f, p.2 ≠ 0) ∧ (∀ X, sumM X (m.foldl (atS j k v) f) = sumM X f + sumM (fun w => v ^ (getw w j k).toNat * X (setz w j k)) m) ∧ ∀ w ∈ keys (m.foldl (atS j k v) f), w ∈ keys f ∨ ∃ u ∈ keys m, w = setz u j k
  | [], f, _, nd, nz => ⟨nd, nz, fun X => by show sumM X f = sumM X f + 0; omega, fun w hw => .inl hw⟩
  | e :: m, f, hg, nd, nz => by
    have nd1 : (keys (atS j k v f e)).Nodup := by
      unfold atS
      split
      · exact nodup_tless nd
      · exact nd
    have nz1 : ∀ p ∈ atS j k v f e, p.2 ≠ 0 := by
      unfold atS
      split
      · exact nz_tless nz
      · exact nz
    obtain ⟨h1, h2, h3, h4⟩ := at_all j k v m (atS j k v f e) (fun p hp => hg p (List.mem_cons_of_mem _ hp)) nd1 nz1
    refine ⟨h1, h2, fun X => ?_, fun w hw => ?_⟩
    · rw [List.foldl_cons, h3, sumM_cons]
      have : sumM X (atS j k v f e) = sumM X f + e.2 * (v ^ (getw e.1 j k).toNat * X (setz e.1 j k)) := by
        unfold atS
        split
        · rw [sumM_tless X _ _ _ nd]; grind
        · rename_i hn
          have hn1 : getw e.1 j k ≠ 0 := fun z => hn (.inl z)
          have hv : v = 0 := by
            rcases Decidable.em (v = 0) with z | z
            · exact z
            · exact absurd (.inr z) hn
          have h0 := hg e List.mem_cons_self
          have : (getw e.1 j k).toNat ≠ 0 := by omega
          rw [hv, Int.zero_pow this]
          simp
      rw [this]
      omega
    · rcases h4 w hw with h | ⟨u, hu, hw⟩
      · have : w ∈ keys f ∨ w = setz e.1 j k := by
          unfold atS at h
          split at h
          · rcases mem_tless h with z | z
            · exact .inr z
            · exact .inl z
          · exact .inl h
        rcases this with z | z
        · exact .inl z
        · exact .inr ⟨e.1, List.mem_cons_self, z⟩
      · exact .inr ⟨u, List.mem_cons_of_mem _ hu, hw⟩
structure GoodS (m : Sums) (n c : Nat) : Prop where
  nd : (keys m).Nodup
  nz : ∀ p ∈ m, p.2 ≠ 0
  ne : m ≠ []
  wl : ∀ p ∈ m, p.1.length = n
  ll : ∀ p ∈ m, ∀ l ∈ p.1, l.length = c
  pw : ∀ p ∈ m, ∀ l ∈ p.1, ∀ x ∈ l, 0 ≤ x ∧ x ≤ 2
theorem getw_rng {m : Sums} {n c : Nat} (g : GoodS m n c) (j k : Nat) : ∀ p ∈ m, 0 ≤ getw p.1 j k ∧ getw p.1 j k ≤ 2 := by
  intro p hp
  unfold getw
  by_cases hj : j < p.1.length
  · rw [List.getD_eq_getElem?_getD, List.getD_eq_getElem?_getD, List.getElem?_eq_getElem hj, Option.getD_some]
    by_cases hk : k < (p.1[j]).length
    · rw [List.getElem?_eq_getElem hk, Option.getD_some]
      exact g.pw p hp _ (List.getElem_mem hj) _ (List.getElem_mem hk)
    · rw [List.getElem?_eq_none (by omega)]
      exact ⟨Int.le_refl _, by decide⟩
  · have e : p.1[j]? = none := List.getElem?_eq_none (by omega)
    rw [List.getD_eq_getElem?_getD, List.getD_eq_getElem?_getD, e]
    simp
theorem setz_inj {u w : Wrd} {j k : Nat} (hu : j < u.length) (hw : j < w.length) (hk : k < (u.getD j []).length) (hk' : k < (w.getD j []).length) (h1 : setz u j k = setz w j k) (h2 : getw u j k = getw w j k) : u = w := by
  have key : ∀ x : Wrd, j < x.length → k < (x.getD j []).length → x = (setz x j k).set j (((setz x j k).getD j []).set k (getw x j k)) := by
    intro x hx hkx
    unfold setz getw
    have e1 : (x.set j ((x.getD j []).set k 0)).getD j [] = (x.getD j []).set k 0 := by
      rw [List.getD_eq_getElem?_getD, List.getElem?_set_self hx, Option.getD_some]
    rw [e1, List.set_set, List.set_set]
    have e2 : (x.getD j []).set k ((x.getD j []).getD k 0) = x.getD j [] := by
      rw [List.getD_eq_getElem?_getD (l := x.getD j []), List.getElem?_eq_getElem hkx, Option.getD_some, List.set_getElem_self]
    rw [e2]
    rw [List.getD_eq_getElem?_getD, List.getElem?_eq_getElem hx, Option.getD_some, List.set_getElem_self]
  rw [key u hu hk, key w hw hk', h1, h2]
theorem at_ok {m : Sums} {n c : Nat} (g : GoodS m n c) {j k : Nat} (v : Int) (hj : j < n) (hk : k < c) (ne : atn m j k v ≠ []) : GoodS (atn m j k v) n c ∧ (∀ X, sumM X (atn m j k v) = sumM (fun w => v ^ (getw w j k).toNat * X (setz w j k)) m) ∧ ∀ w ∈ keys (atn m j k v), ∃ u ∈ keys m, w = setz u j k := by
  obtain ⟨h1, h2, h3, h4⟩ := at_all j k v m [] (fun p hp => (getw_rng g j k p hp).1) List.nodup_nil (fun p hp => by cases hp)
  have h5 : ∀ w ∈ keys (atn m j k v), ∃ u ∈ keys m, w = setz u j k := fun w hw => by
    rcases h4 w hw with z | z
    · cases z
    · exact z
  have sh : ∀ p ∈ atn m j k v, ∃ q ∈ m, p.1 = setz q.1 j k := fun p hp => by
    obtain ⟨u, hu, e⟩ := h5 p.1 (List.mem_map.mpr ⟨p, hp, rfl⟩)
    obtain ⟨q, hq, rfl⟩ := List.mem_map.mp hu
    exact ⟨q, hq, e⟩
  refine ⟨⟨h1, h2, ne, fun p hp => ?_, fun p hp l hl => ?_, fun p hp l hl x hx => ?_⟩, fun X => by rw [atn, h3]; show 0 + _ = _; omega, h5⟩
  · obtain ⟨q, hq, e⟩ := sh p hp
    rw [e, setz, List.length_set]
    exact g.wl q hq
  · obtain ⟨q, hq, e⟩ := sh p hp
    rw [e, setz] at hl
    rcases List.mem_or_eq_of_mem_set hl with z | z
    · exact g.ll q hq l z
    · rw [z, List.length_set]
      have hjq : j < q.1.length := by rw [g.wl q hq]; exact hj
      rw [List.getD_eq_getElem?_getD, List.getElem?_eq_getElem hjq, Option.getD_some]
      exact g.ll q hq _ (List.getElem_mem hjq)
  · obtain ⟨q, hq, e⟩ := sh p hp
    rw [e, setz] at hl
    rcases List.mem_or_eq_of_mem_set hl with z | z
    · exact g.pw q hq l z x hx
    · rw [z] at hx
      have hjq : j < q.1.length := by rw [g.wl q hq]; exact hj
      rw [List.getD_eq_getElem?_getD, List.getElem?_eq_getElem hjq, Option.getD_some] at hx
      rcases List.mem_or_eq_of_mem_set hx with y | y
      · exact g.pw q hq _ (List.getElem_mem hjq) x y
      · rw [y]; exact ⟨Int.le_refl _, by decide⟩
/-- a number that leaves something -/
theorem at_some {m : Sums} {n c : Nat} (g : GoodS m n c) {j k : Nat} (hj : j < n) (hk : k < c) : ¬ (atn m j k 0 = [] ∧ atn m j k 1 = [] ∧ atn m j k 2 = []) := by
  rintro ⟨z0, z1, z2⟩
  have hs : ∀ v X, sumM X (atn m j k v) = sumM (fun w => v ^ (getw w j k).toNat * X (setz w j k)) m := fun v X => by
    obtain ⟨_, _, h3, _⟩ := at_all j k v m [] (fun p hp => (getw_rng g j k p hp).1) List.nodup_nil (fun p hp => by cases hp)
    rw [atn, h3]; show 0 + _ = _; omega
  cases hm : m with
  | nil => exact g.ne hm
  | cons p0 rest =>
    have hp0 : p0 ∈ m := by rw [hm]; exact List.mem_cons_self
    have hp0' : (p0.1, p0.2) ∈ m := hp0
    let X : Wrd → Int := fun w => if w = setz p0.1 j k then 1 else 0
    let A : Nat → Int := fun i => sumM (fun w => if getw w j k = (i : Int) ∧ setz w j k = setz p0.1 j k then 1 else 0) m
    have e : ∀ v : Int, sumM (fun w => v ^ (getw w j k).toNat * X (setz w j k)) m = A 0 + v * A 1 + v * v * A 2 := by
      intro v
      show _ = sumM _ m + v * sumM _ m + v * v * sumM _ m
      have key : ∀ r : Sums, (∀ p ∈ r, p ∈ m) → sumM (fun w => v ^ (getw w j k).toNat * X (setz w j k)) r = sumM (fun w => if getw w j k = ((0 : Nat) : Int) ∧ setz w j k = setz p0.1 j k then 1 else 0) r + v * sumM (fun w => if getw w j k = ((1 : Nat) : Int) ∧ setz w j k = setz p0.1 j k then 1 else 0) r + v * v * sumM (fun w => if getw w j k = ((2 : Nat) : Int) ∧ setz w j k = setz p0.1 j k then 1 else 0) r := by
        intro r
        induction r with
        | nil => intro _; simp [sumM]
        | cons p r ih =>
          intro hr
          rw [sumM_cons, sumM_cons, sumM_cons, sumM_cons, ih fun q hq => hr q (List.mem_cons_of_mem _ hq)]
          have hg := getw_rng g j k p (hr p List.mem_cons_self)
          have hX : X (setz p.1 j k) = if setz p.1 j k = setz p0.1 j k then 1 else 0 := rfl
          rw [hX]
          have h3 : getw p.1 j k = 0 ∨ getw p.1 j k = 1 ∨ getw p.1 j k = 2 := by omega
          by_cases hz : setz p.1 j k = setz p0.1 j k
          · rcases h3 with h3 | h3 | h3
            · simp [hz, h3]; grind
            · simp [hz, h3]; grind
            · simp [hz, h3]; grind
          · simp [hz]
      exact key m fun p hp => hp
    have a0 := hs 0 X
    have a1 := hs 1 X
    have a2 := hs 2 X
    rw [z0, e] at a0
    rw [z1, e] at a1
    rw [z2, e] at a2
    have zz : sumM X ([] : Sums) = 0 := rfl
    rw [zz] at a0 a1 a2
    have b0 : A 0 = 0 := by omega
    have b1 : A 1 = 0 := by omega
    have b2 : A 2 = 0 := by omega
    have hg := getw_rng g j k p0 hp0
    have hjq : ∀ p ∈ m, j < p.1.length := fun p hp => by rw [g.wl p hp]; exact hj
    have hkq : ∀ p ∈ m, k < (p.1.getD j []).length := fun p hp => by
      rw [List.getD_eq_getElem?_getD, List.getElem?_eq_getElem (hjq p hp), Option.getD_some, g.ll p hp _ (List.getElem_mem _)]
      exact hk
    have fin : ∀ i : Nat, getw p0.1 j k = (i : Int) → A i = p0.2 := by
      intro i hi
      have e1 : A i = sumM (fun w => if w = p0.1 then 1 else 0) m := by
        refine sumM_congr fun p hp => ?_
        by_cases z : p.1 = p0.1
        · rw [z, if_pos ⟨hi, rfl⟩, if_pos rfl]
        · rw [if_neg z, if_neg]
          rintro ⟨y1, y2⟩
          exact z (setz_inj (hjq p hp) (hjq p0 hp0) (hkq p hp) (hkq p0 hp0) y2 (y1.trans hi.symm))
      rw [e1, sum_ind p0.1 m g.nd, tget_some g.nd hp0']
      rfl
    have hnz := g.nz p0 hp0
    have h3 : getw p0.1 j k = 0 ∨ getw p0.1 j k = 1 ∨ getw p0.1 j k = 2 := by omega
    rcases h3 with h3 | h3 | h3
    · exact hnz ((fin 0 h3).symm.trans b0)
    · exact hnz ((fin 1 h3).symm.trans b1)
    · exact hnz ((fin 2 h3).symm.trans b2)
end Pm
end
section
set_option Elab.async false
set_option linter.all false
set_option maxRecDepth 100000
set_option maxHeartbeats 4000000
/-! PmRows2: the rows that are found. -/
namespace Pm
open Pd
def setm (R : List Ltr) (j k : Nat) (v : Int) : List Ltr := R.set j ((R.getD j []).set k v)
structure Shape (R : List Ltr) (n c : Nat) : Prop where
  l : R.length = n
  w : ∀ r ∈ R, r.length = c
theorem val_set : ∀ (l r : Ltr) (k : Nat) (v : Int), l.length = r.length → k < l.length → val l (r.set k v) = v ^ (l.getD k 0).toNat * val (l.set k 0) r
  | p :: l, x :: r, 0, v, _, _ => by simp [val]
  | p :: l, x :: r, k + 1, v, h, hk => by
    have ih := val_set l r k v (by simpa using h) (by simpa using hk)
    simp only [List.set_cons_succ, val, ih, List.getD_cons_succ]
    grind
  | [], _, _, _, _, hk => by simp at hk
  | _ :: _, [], _, _, h, _ => by simp at h
theorem ev_set : ∀ (w : Wrd) (R : List Ltr) (j k c : Nat) (v : Int), w.length = R.length → j < w.length → (∀ l ∈ w, l.length = c) → (∀ r ∈ R, r.length = c) → k < c → Ev w (setm R j k v) = v ^ (getw w j k).toNat * Ev (setz w j k) R
  | l :: w, r :: R, 0, k, c, v, _, _, h1, h2, hk => by
    have e1 := h1 l List.mem_cons_self
    have e2 := h2 r List.mem_cons_self
    simp only [setm, getw, setz, List.getD_cons_zero, List.set_cons_zero, Ev]
    rw [val_set l r k v (by omega) (by omega)]
    grind
  | l :: w, r :: R, j + 1, k, c, v, hl, hj, h1, h2, hk => by
    have ih := ev_set w R j k c v (by simpa using hl) (by simpa using hj) (fun a ha => h1 a (List.mem_cons_of_mem _ ha)) (fun a ha => h2 a (List.mem_cons_of_mem _ ha)) hk
    simp only [setm, getw, setz, List.getD_cons_succ, List.set_cons_succ, Ev] at ih ⊢
    rw [ih]
    grind
  | [], _, _, _, _, _, _, hj, _, _, _ => by simp at hj
  | _ :: _, [], _, _, _, _, hl, _, _, _, _ => by simp at hl
def findv (m : Sums) (j k : Nat) : Int := if atn m j k 0 = [] then (if atn m j k 1 = [] then 2 else 1) else 0
theorem findv_rng (m : Sums) (j k : Nat) : 0 ≤ findv m j k ∧ findv m j k ≤ 2 := by
  unfold findv
  split
  · split <;> decide
  · decide
def Zr (m : Sums) (j k : Nat) : Prop := ∀ p ∈ m, getw p.1 j k = 0
def nxt (m : Sums) (j k : Nat) : Sums := atn m j k (findv m j k)
theorem getw_setz {u : Wrd} {j k j' k' : Nat} : getw (setz u j k) j' k' = 0 ∨ getw (setz u j k) j' k' = getw u j' k' := by
  unfold getw setz
  by_cases hj : j < u.length
  · by_cases e : j = j'
    · subst e
      have e1 : (u.set j ((u.getD j []).set k 0)).getD j [] = (u.getD j []).set k 0 := by
        rw [List.getD_eq_getElem?_getD, List.getElem?_set_self hj, Option.getD_some]
      rw [e1]
      by_cases e : k = k'
      · subst e
        left
        by_cases hk : k < (u.getD j []).length
        · rw [List.getD_eq_getElem?_getD, List.getElem?_set_self hk, Option.getD_some]
        · rw [List.getD_eq_getElem?_getD, List.getElem?_eq_none (by rw [List.length_set]; omega)]
          rfl
      · right
        rw [List.getD_eq_getElem?_getD, List.getElem?_set_ne e, ← List.getD_eq_getElem?_getD]
    · right
      have e1 : (u.set j ((u.getD j []).set k 0)).getD j' [] = u.getD j' [] := by
        rw [List.getD_eq_getElem?_getD, List.getElem?_set_ne e, ← List.getD_eq_getElem?_getD]
      rw [e1]
  · right
    rw [List.set_eq_of_length_le (by omega)]
theorem getw_setz_self {u : Wrd} {j k : Nat} (hj : j < u.length) (hk : k < (u.getD j []).length) : getw (setz u j k) j k = 0 := by
  unfold getw setz
  have e1 : (u.set j ((u.getD j []).set k 0)).getD j [] = (u.getD j []).set k 0 := by
    rw [List.getD_eq_getElem?_getD, List.getElem?_set_self hj, Option.getD_some]
  rw [e1, List.getD_eq_getElem?_getD, List.getElem?_set_self hk, Option.getD_some]
theorem nxt_ok {m : Sums} {n c : Nat} (g : GoodS m n c) {j k : Nat} (hj : j < n) (hk : k < c) : GoodS (nxt m j k) n c ∧ (∀ R, Shape R n c → sumM (fun w => Ev w R) (nxt m j k) = sumM (fun w => Ev w (setm R j k (findv m j k))) m) ∧ Zr (nxt m j k) j k ∧ ∀ j' k', Zr m j' k' → Zr (nxt m j k) j' k' := by
  have ne : atn m j k (findv m j k) ≠ [] := by
    have := at_some g hj hk
    unfold findv
    by_cases h0 : atn m j k 0 = []
    · rw [if_pos h0]
      by_cases h1 : atn m j k 1 = []
      · rw [if_pos h1]
        exact fun h2 => this ⟨h0, h1, h2⟩
      · rw [if_neg h1]; exact h1
    · rw [if_neg h0]; exact h0
  obtain ⟨h1, h2, h3⟩ := at_ok g (findv m j k) hj hk ne
  have h4 : ∀ p ∈ nxt m j k, ∃ q ∈ m, p.1 = setz q.1 j k := fun p hp => by
    obtain ⟨u, hu, e⟩ := h3 p.1 (List.mem_map.mpr ⟨p, hp, rfl⟩)
    obtain ⟨q, hq, rfl⟩ := List.mem_map.mp hu
    exact ⟨q, hq, e⟩
  have hjq : ∀ p ∈ m, j < p.1.length := fun p hp => by rw [g.wl p hp]; exact hj
  refine ⟨h1, fun R hR => ?_, fun p hp => ?_, fun j' k' hz p hp => ?_⟩
  · show sumM _ (atn m j k (findv m j k)) = _
    rw [h2]
    refine sumM_congr fun p hp => ?_
    exact (ev_set p.1 R j k c _ (by rw [g.wl p hp, hR.l]) (hjq p hp) (g.ll p hp) hR.w hk).symm
  · obtain ⟨q, hq, e⟩ := h4 p hp
    rw [e]
    refine getw_setz_self (hjq q hq) ?_
    rw [List.getD_eq_getElem?_getD, List.getElem?_eq_getElem (hjq q hq), Option.getD_some, g.ll q hq _ (List.getElem_mem _)]
    exact hk
  · obtain ⟨q, hq, e⟩ := h4 p hp
    rw [e]
    rcases getw_setz (u := q.1) (j := j) (k := k) (j' := j') (k' := k') with z | z
    · exact z
    · rw [z]; exact hz q hq
/-- a row -/
def prow (m : Sums) (j : Nat) : List Nat → Ltr × Sums
  | [] => ([], m)
  | k :: ks => (findv m j k :: (prow (nxt m j k) j ks).1, (prow (nxt m j k) j ks).2)
theorem prow_ok {m : Sums} {n c : Nat} (g : GoodS m n c) {j : Nat} (hj : j < n) (hc : c ≤ 2) : GoodS (prow m j (List.range c)).2 n c ∧ (prow m j (List.range c)).1.length = c ∧ (∀ x ∈ (prow m j (List.range c)).1, 0 ≤ x ∧ x ≤ 2) ∧ (∀ R, Shape R n c → sumM (fun w => Ev w R) (prow m j (List.range c)).2 = sumM (fun w => Ev w (R.set j (prow m j (List.range c)).1)) m) ∧
    (∀ k, k < c → Zr (prow m j (List.range c)).2 j k) ∧ ∀ j' k', Zr m j' k' → Zr (prow m j (List.range c)).2 j' k' := by
  have shs : ∀ (R : List Ltr) (k : Nat) (v : Int), Shape R n c → Shape (setm R j k v) n c := fun R k v hR => by
    refine ⟨by rw [setm, List.length_set]; exact hR.l, fun r hr => ?_⟩
    rcases List.mem_or_eq_of_mem_set hr with z | z
    · exact hR.w r z
    · rw [z, List.length_set]
      have hjq : j < R.length := by rw [hR.l]; exact hj
      rw [List.getD_eq_getElem?_getD, List.getElem?_eq_getElem hjq, Option.getD_some]
      exact hR.w _ (List.getElem_mem hjq)
  have rj : ∀ (R : List Ltr), Shape R n c → (R.getD j []).length = c := fun R hR => by
    have hjq : j < R.length := by rw [hR.l]; exact hj
    rw [List.getD_eq_getElem?_getD, List.getElem?_eq_getElem hjq, Option.getD_some]
    exact hR.w _ (List.getElem_mem hjq)
  match c, hc, g, shs, rj with
  | 0, _, g, shs, rj =>
    refine ⟨g, rfl, fun x hx => (by cases hx), fun R hR => ?_, fun k hk => by omega, fun j' k' h => h⟩
    show sumM _ m = sumM (fun w => Ev w (R.set j [])) m
    have e : R.set j [] = R := by
      have hjq : j < R.length := by rw [hR.l]; exact hj
      have e0 : R[j] = [] := List.eq_nil_of_length_eq_zero (hR.w _ (List.getElem_mem hjq))
      rw [← e0, List.set_getElem_self]
    rw [e]
  | 1, _, g, shs, rj =>
    obtain ⟨g1, h1, z1, p1⟩ := nxt_ok g hj (k := 0) (by omega)
    refine ⟨g1, rfl, fun x hx => ?_, fun R hR => ?_, fun k hk => ?_, p1⟩
    · rcases List.mem_cons.mp hx with z | z
      · rw [z]; exact findv_rng _ _ _
      · cases z
    · show sumM _ (nxt m j 0) = sumM (fun w => Ev w (R.set j [findv m j 0])) m
      rw [h1 R hR]
      have e : setm R j 0 (findv m j 0) = R.set j [findv m j 0] := by
        unfold setm
        congr 1
        have := rj R hR
        match R.getD j [], this with
        | [a], _ => rfl
      rw [e]
    · have : k = 0 := by omega
      subst this
      exact z1
  | 2, _, g, shs, rj =>
    obtain ⟨g1, h1, z1, p1⟩ := nxt_ok g hj (k := 0) (by omega)
    obtain ⟨g2, h2, z2, p2⟩ := nxt_ok g1 hj (k := 1) (by omega)
    refine ⟨g2, rfl, fun x hx => ?_, fun R hR => ?_, fun k hk => ?_, fun j' k' h => p2 j' k' (p1 j' k' h)⟩
    · rcases List.mem_cons.mp hx with z | z
      · rw [z]; exact findv_rng _ _ _
      · rcases List.mem_cons.mp z with z | z
        · rw [z]; exact findv_rng _ _ _
        · cases z
    · show sumM _ (nxt (nxt m j 0) j 1) = sumM (fun w => Ev w (R.set j [findv m j 0, findv (nxt m j 0) j 1])) m
      rw [h2 R hR, h1 _ (shs R _ _ hR)]
      have e : setm (setm R j 1 (findv (nxt m j 0) j 1)) j 0 (findv m j 0) = R.set j [findv m j 0, findv (nxt m j 0) j 1] := by
        have hjq : j < R.length := by rw [hR.l]; exact hj
        unfold setm
        have e1 : (R.set j ((R.getD j []).set 1 (findv (nxt m j 0) j 1))).getD j [] = (R.getD j []).set 1 (findv (nxt m j 0) j 1) := by
          rw [List.getD_eq_getElem?_getD, List.getElem?_set_self hjq, Option.getD_some]
        rw [e1, List.set_set]
        congr 1
        have := rj R hR
        match R.getD j [], this with
        | [a, b], _ => rfl
      rw [e]
    · match k, hk with
      | 0, _ => exact p2 _ _ z1
      | 1, _ => exact z2
/-- all rows -/
def prows (m : Sums) (c : Nat) : List Nat → List Ltr × Sums
  | [] => ([], m)
  | j :: js => ((prow m j (List.range c)).1 :: (prows (prow m j (List.range c)).2 c js).1, (prows (prow m j (List.range c)).2 c js).2)
theorem ev_zero : ∀ (w : Wrd) (R : List Ltr), (∀ l ∈ w, ∀ x ∈ l, x = 0) → Ev w R = 1
  | [], _, _ => by simp [Ev]
  | _ :: _, [], _ => by simp [Ev]
  | l :: w, r :: R, h => by
    have hv : ∀ (l r : Ltr), (∀ x ∈ l, x = 0) → val l r = 1 := by
      intro l
      induction l with
      | nil => intro r _; simp [val]
      | cons p l ih =>
        intro r hl
        cases r with
        | nil => simp [val]
        | cons x r =>
          rw [val, ih r fun y hy => hl y (List.mem_cons_of_mem _ hy), hl p List.mem_cons_self]
          simp
    rw [Ev, hv l r (h l List.mem_cons_self), ev_zero w R fun a ha => h a (List.mem_cons_of_mem _ ha)]
    rfl
theorem all_zero {m : Sums} {n c : Nat} (g : GoodS m n c) (h : ∀ j, j < n → ∀ k, k < c → Zr m j k) (R : List Ltr) : sumM (fun w => Ev w R) m ≠ 0 := by
  have hz : ∀ p ∈ m, ∀ l ∈ p.1, ∀ x ∈ l, x = 0 := fun p hp l hl x hx => by
    obtain ⟨j, hj, rfl⟩ := List.getElem_of_mem hl
    obtain ⟨k, hk, rfl⟩ := List.getElem_of_mem hx
    have hk' : k < c := by rw [← g.ll p hp _ hl]; exact hk
    have := h j (by rw [← g.wl p hp]; exact hj) k hk' p hp
    unfold getw at this
    rw [List.getD_eq_getElem?_getD (l := p.1), List.getElem?_eq_getElem hj, Option.getD_some, List.getD_eq_getElem?_getD, List.getElem?_eq_getElem hk, Option.getD_some] at this
    exact this
  have same : ∀ p ∈ m, p.1 = List.replicate n (List.replicate c 0) := fun p hp => by
    rw [List.eq_replicate_iff]
    refine ⟨g.wl p hp, fun l hl => ?_⟩
    rw [List.eq_replicate_iff]
    exact ⟨g.ll p hp l hl, hz p hp l hl⟩
  have e1 : sumM (fun w => Ev w R) m = sumM (fun _ => 1) m := sumM_congr fun p hp => ev_zero p.1 R (hz p hp)
  rw [e1]
  match hm : m, g with
  | [], g => exact fun _ => g.ne rfl
  | [p], g =>
    have := g.nz p List.mem_cons_self
    unfold sumM
    simpa using this
  | p :: q :: r, g =>
    have nd := g.nd
    rw [keys, List.map_cons, List.nodup_cons] at nd
    exact absurd (List.mem_map.mpr ⟨q, List.mem_cons_self, (same q (by simp)).trans (same p (by simp)).symm⟩) nd.1
theorem prows2 {m : Sums} {c : Nat} (g : GoodS m 2 c) (hc : c ≤ 2) : ∃ r s : Ltr, (prows m c (List.range 2)).1 = [r, s] ∧ Shape [r, s] 2 c ∧ (∀ x ∈ r, 0 ≤ x ∧ x ≤ 2) ∧ (∀ x ∈ s, 0 ≤ x ∧ x ≤ 2) ∧ sumM (fun w => Ev w [r, s]) m ≠ 0 := by
  obtain ⟨g1, l1, n1, e1, z1, p1⟩ := prow_ok g (j := 0) (by omega) hc
  obtain ⟨g2, l2, n2, e2, z2, p2⟩ := prow_ok g1 (j := 1) (by omega) hc
  refine ⟨_, _, rfl, ⟨rfl, fun r hr => ?_⟩, n1, n2, ?_⟩
  · rcases List.mem_cons.mp hr with z | z
    · rw [z]; exact l1
    · rw [List.mem_singleton.mp z]; exact l2
  · have sh : Shape [List.replicate c 0, List.replicate c 0] 2 c := ⟨rfl, fun r hr => by rcases List.mem_cons.mp hr with z | z; rw [z]; simp; rw [List.mem_singleton.mp z]; simp⟩
    have sh2 : Shape ([List.replicate c 0, List.replicate c 0].set 1 (prow (prow m 0 (List.range c)).2 1 (List.range c)).1) 2 c := ⟨rfl, fun r hr => by rcases List.mem_or_eq_of_mem_set hr with z | z; exact sh.w r z; rw [z]; exact l2⟩
    have f := e2 _ sh
    rw [e1 _ sh2] at f
    have := all_zero g2 (fun j hj k hk => match j, hj with
      | 0, _ => p2 _ _ (z1 k hk)
      | 1, _ => z2 k hk) [List.replicate c 0, List.replicate c 0]
    rw [f] at this
    exact this
theorem prows3 {m : Sums} {c : Nat} (g : GoodS m 3 c) (hc : c ≤ 2) : ∃ r s u : Ltr, (prows m c (List.range 3)).1 = [r, s, u] ∧ Shape [r, s, u] 3 c ∧ (∀ x ∈ r, 0 ≤ x ∧ x ≤ 2) ∧ (∀ x ∈ s, 0 ≤ x ∧ x ≤ 2) ∧ (∀ x ∈ u, 0 ≤ x ∧ x ≤ 2) ∧ sumM (fun w => Ev w [r, s, u]) m ≠ 0 := by
  obtain ⟨g1, l1, n1, e1, z1, p1⟩ := prow_ok g (j := 0) (by omega) hc
  obtain ⟨g2, l2, n2, e2, z2, p2⟩ := prow_ok g1 (j := 1) (by omega) hc
  obtain ⟨g3, l3, n3, e3, z3, p3⟩ := prow_ok g2 (j := 2) (by omega) hc
  have zc : (List.replicate c (0 : Int)).length = c := List.length_replicate
  refine ⟨_, _, _, rfl, ⟨rfl, fun r hr => ?_⟩, n1, n2, n3, ?_⟩
  · rcases List.mem_cons.mp hr with z | z
    · rw [z]; exact l1
    · rcases List.mem_cons.mp z with z | z
      · rw [z]; exact l2
      · rw [List.mem_singleton.mp z]; exact l3
  · have sh : Shape [List.replicate c 0, List.replicate c 0, List.replicate c 0] 3 c := ⟨rfl, fun r hr => by
      rcases List.mem_cons.mp hr with z | z
      · rw [z]; exact zc
      · rcases List.mem_cons.mp z with z | z
        · rw [z]; exact zc
        · rw [List.mem_singleton.mp z]; exact zc⟩
    have st : ∀ {R : List Ltr} {j : Nat} {r : Ltr}, Shape R 3 c → r.length = c → Shape (R.set j r) 3 c := fun {R j r} hR hr => ⟨by rw [List.length_set]; exact hR.l, fun x hx => by
      rcases List.mem_or_eq_of_mem_set hx with z | z
      · exact hR.w x z
      · rw [z]; exact hr⟩
    have f := e3 _ sh
    rw [e2 _ (st sh l3), e1 _ (st (st sh l3) l2)] at f
    have := all_zero g3 (fun j hj k hk => match j, hj with
      | 0, _ => p3 _ _ (p2 _ _ (z1 k hk))
      | 1, _ => p3 _ _ (z2 k hk)
      | 2, _ => z3 k hk) [List.replicate c 0, List.replicate c 0, List.replicate c 0]
    rw [f] at this
    exact this
end Pm
end
section
set_option Elab.async false
set_option linter.all false
set_option maxRecDepth 100000
set_option maxHeartbeats 4000000
/-! PmAlike: groups of alike terms. -/
namespace Pm
open Pd
def ltL : Ltr → Ltr → Bool
  | a :: as, b :: bs => if a = b then ltL as bs else decide (a < b)
  | [], _ :: _ => true
  | _, [] => false
def srt : Wrd → Wrd
  | [a, b] => if ltL b a then [b, a] else [a, b]
  | w => w
def ways : Wrd → List (Wrd × Wrd)
  | [] => [([], [])]
  | [a] => [([], [a]), ([a], [])]
  | [a, b] => [([], [a, b]), ([a], [b]), ([a, b], [])] ++ if a = b then [] else [([], [b, a]), ([b], [a]), ([b, a], [])]
  | _ => []
def key (t : Trm) : Ltr × Wrd := (t.2.1, srt (t.1 ++ t.2.2))
def wterms (k : Ltr × Wrd) : List Trm := (ways k.2).map fun w => (w.1, k.1, w.2)
def get0 (P : Prt) (t : Trm) : Int := (tget P t).getD 0
def alike (P : Prt) (t : Trm) : Prop := ∀ u ∈ wterms (key t), get0 P u = get0 P t
instance (P : Prt) (t : Trm) : Decidable (alike P t) := by unfold alike; infer_instance
theorem ltL_irrefl : ∀ a, ltL a a = false
  | [] => rfl
  | a :: as => by rw [ltL, if_pos rfl, ltL_irrefl as]
theorem ltL_asymm : ∀ a b, ltL a b = true → ltL b a = false
  | [], [], h => by cases h
  | [], _ :: _, _ => rfl
  | _ :: _, [], h => by cases h
  | a :: as, b :: bs, h => by
    rw [ltL] at h ⊢
    by_cases e : a = b
    · rw [if_pos e] at h
      rw [if_pos e.symm]
      exact ltL_asymm as bs h
    · rw [if_neg e] at h
      rw [if_neg (Ne.symm e)]
      have := of_decide_eq_true h
      exact decide_eq_false (by omega)
theorem ltL_tri : ∀ a b, ltL a b = false → ltL b a = false → a = b
  | [], [], _, _ => rfl
  | [], _ :: _, h, _ => by cases h
  | _ :: _, [], _, h => by cases h
  | a :: as, b :: bs, h, h2 => by
    rw [ltL] at h h2
    by_cases e : a = b
    · rw [if_pos e] at h
      rw [if_pos e.symm] at h2
      rw [e, ltL_tri as bs h h2]
    · rw [if_neg e] at h
      rw [if_neg (Ne.symm e)] at h2
      have := of_decide_eq_false h
      have := of_decide_eq_false h2
      omega
theorem srt2 (a b : Ltr) : srt [a, b] = if ltL b a then [b, a] else [a, b] := rfl
theorem srt_swap (a b : Ltr) : srt [a, b] = srt [b, a] := by
  rw [srt2, srt2]
  cases h : ltL b a with
  | true => rw [ltL_asymm b a h]; rfl
  | false =>
    cases h2 : ltL a b with
    | true => rfl
    | false => rw [ltL_tri a b h2 h]
theorem srt_cases (a b : Ltr) : srt [a, b] = [a, b] ∨ srt [a, b] = [b, a] := by
  rw [srt2]
  cases ltL b a with
  | true => exact .inr rfl
  | false => exact .inl rfl
theorem key_mv1 {t : Trm} (h : len t ≤ 2) : key (mv1 t) = key t := by
  cases shp_of h <;> first | rfl | (simp [key, mv1, srt_swap]; done) | (unfold key mv1; simp only [List.nil_append, List.append_nil, List.cons_append]; rw [srt_swap])
theorem key_mv2 {t : Trm} (h : len t ≤ 2) : key (mv2 t) = key t := by
  cases shp_of h <;> rfl
theorem self_ways (a b : Ltr) : ([], [a, b]) ∈ ways (srt [a, b]) ∧ ([a], [b]) ∈ ways (srt [a, b]) ∧ ([a, b], []) ∈ ways (srt [a, b]) := by
  rcases srt_cases a b with h | h
  · rw [h]; simp [ways]
  · rw [h]
    by_cases e : a = b
    · subst e; simp [ways]
    · have : ¬ b = a := fun z => e z.symm
      simp [ways, this]
theorem self_mem {t : Trm} (h : len t ≤ 2) : t ∈ wterms (key t) := by
  have hm : ∀ (l r : Wrd) (x : Ltr), (l, r) ∈ ways (srt (l ++ r)) → (l, x, r) ∈ wterms (key (l, x, r)) := fun l r x hw => List.mem_map.mpr ⟨(l, r), hw, rfl⟩
  cases shp_of h with
  | s0 x => exact hm _ _ _ (by simp [ways, srt])
  | s1 x a => exact hm _ _ _ (by simp [ways, srt])
  | s2 x a => exact hm _ _ _ (by simp [ways, srt])
  | s3 x a b => exact hm _ _ _ (self_ways a b).2.2
  | s4 x a b => exact hm _ _ _ (self_ways a b).2.1
  | s5 x a b => exact hm _ _ _ (self_ways a b).1
/-- the ways are reached by moves -/
def orb (t : Trm) : List Trm := [t, mv2 t, mv2 (mv2 t), mv1 t, mv2 (mv1 t), mv2 (mv2 (mv1 t))]
theorem ways_sub (a b : Ltr) : ∀ w ∈ ways (srt [a, b]), w ∈ [([], [a, b]), ([a], [b]), ([a, b], []), ([], [b, a]), ([b], [a]), ([b, a], [])] := by
  intro w hw
  rcases srt_cases a b with h | h
  · rw [h] at hw
    unfold ways at hw
    rcases List.mem_append.mp hw with z | z
    · simp at z ⊢; rcases z with z | z | z <;> simp [z]
    · split at z
      · cases z
      · simp at z ⊢; rcases z with z | z | z <;> simp [z]
  · rw [h] at hw
    unfold ways at hw
    rcases List.mem_append.mp hw with z | z
    · simp at z ⊢; rcases z with z | z | z <;> simp [z]
    · split at z
      · cases z
      · simp at z ⊢; rcases z with z | z | z <;> simp [z]
theorem mem_orb {t u : Trm} (h : len t ≤ 2) (hu : u ∈ wterms (key t)) : u ∈ orb t := by
  obtain ⟨w, hw, rfl⟩ := List.mem_map.mp hu
  cases shp_of h with
  | s0 x => simp [key, ways, srt] at hw; subst hw; simp [orb, key]
  | s1 x a => simp [key, ways, srt] at hw; rcases hw with z | z <;> subst z <;> simp [orb, key, mv1, mv2]
  | s2 x a => simp [key, ways, srt] at hw; rcases hw with z | z <;> subst z <;> simp [orb, key, mv1, mv2]
  | s3 x a b =>
    have := ways_sub a b w hw
    simp at this
    rcases this with z | z | z | z | z | z <;> subst z <;> simp [orb, key, mv1, mv2]
  | s4 x a b =>
    have := ways_sub a b w hw
    simp at this
    rcases this with z | z | z | z | z | z <;> subst z <;> simp [orb, key, mv1, mv2]
  | s5 x a b =>
    have := ways_sub a b w hw
    simp at this
    rcases this with z | z | z | z | z | z <;> subst z <;> simp [orb, key, mv1, mv2]
theorem orb_key {t u : Trm} (h : len t ≤ 2) (hu : u ∈ orb t) : key u = key t ∧ len u = len t := by
  have l1 := len_mv1 h
  have l2 := len_mv2 h
  have k1 := key_mv1 h
  have k2 := key_mv2 h
  have h1 : len (mv1 t) ≤ 2 := by omega
  have h2 : len (mv2 t) ≤ 2 := by omega
  have h3 : len (mv2 (mv1 t)) ≤ 2 := by have := len_mv2 h1; omega
  simp only [orb, List.mem_cons, List.not_mem_nil, or_false] at hu
  rcases hu with z | z | z | z | z | z <;> subst z
  · exact ⟨rfl, rfl⟩
  · exact ⟨k2, l2⟩
  · exact ⟨(key_mv2 h2).trans k2, (len_mv2 h2).trans l2⟩
  · exact ⟨k1, l1⟩
  · exact ⟨(key_mv2 h1).trans k1, (len_mv2 h1).trans l1⟩
  · exact ⟨(key_mv2 h3).trans ((key_mv2 h1).trans k1), (len_mv2 h3).trans ((len_mv2 h1).trans l1)⟩
theorem mem_wterms {t u : Trm} (h : len t ≤ 2) : u ∈ wterms (key t) ↔ len u ≤ 2 ∧ key u = key t := by
  constructor
  · intro hu
    obtain ⟨h1, h2⟩ := orb_key h (mem_orb h hu)
    exact ⟨by omega, h1⟩
  · rintro ⟨h1, h2⟩
    rw [← h2]
    exact self_mem h1
theorem nodup_wterms {t : Trm} (h : len t ≤ 2) : (wterms (key t)).Nodup := by
  have hw : ∀ w : Wrd, (ways w).Nodup := by
    intro w
    match w with
    | [] => simp [ways]
    | [a] => simp [ways]
    | [a, b] =>
      by_cases e : a = b
      · simp [ways, e]
      · have : ¬ b = a := fun z => e z.symm
        simp [ways, e, this]
    | _ :: _ :: _ :: _ => simp [ways]
  unfold wterms
  refine List.Pairwise.map _ (fun a b hab z => hab ?_) (hw _)
  obtain ⟨a1, a2⟩ := a
  obtain ⟨b1, b2⟩ := b
  simp only [Prod.mk.injEq] at z
  obtain ⟨z1, z2, z3⟩ := z
  rw [z1, z3]
theorem get0_mem {P : Prt} (nd : (keys P).Nodup) {t : Trm} {v : Int} (h : (t, v) ∈ P) : get0 P t = v := by
  unfold get0
  rw [tget_some nd h]
  rfl
theorem mem_get0 {P : Prt} {t : Trm} {v : Int} (h : get0 P t = v) (hv : v ≠ 0) : (t, v) ∈ P := by
  unfold get0 at h
  cases e : tget P t with
  | none => rw [e] at h; exact absurd h.symm hv
  | some w =>
    rw [e] at h
    have : w = v := h
    rw [← this]
    exact tget_mem e
theorem cl_alike {P : Prt} (ok : OkP P) (nz : ∀ p ∈ P, p.2 ≠ 0) (h : ∀ p ∈ P, alike P p.1) : Cl mv1 P ∧ Cl mv2 P := by
  have st : ∀ (σ : Trm → Trm), (∀ t, len t ≤ 2 → key (σ t) = key t ∧ len (σ t) = len t) → Cl σ P := fun σ hσ t v ht => by
    have hl : len t ≤ 2 := ok.short _ ht
    obtain ⟨h1, h2⟩ := hσ t hl
    have := h _ ht (σ t) ((mem_wterms hl).mpr ⟨by omega, h1⟩)
    rw [get0_mem ok.nd ht] at this
    exact mem_get0 this (nz _ ht)
  exact ⟨st mv1 fun t h => ⟨key_mv1 h, len_mv1 h⟩, st mv2 fun t h => ⟨key_mv2 h, len_mv2 h⟩⟩
theorem alike_cl {P : Prt} (ok : OkP P) {n : Nat} (c1 : Cl mv1 (eqn n P)) (c2 : Cl mv2 (eqn n P)) : ∀ p ∈ P, len p.1 = n → alike P p.1 := by
  intro p hp hl u hu
  have hs := ok.short p hp
  have h0 : (p.1, p.2) ∈ eqn n P := List.mem_filter.mpr ⟨hp, decide_eq_true hl⟩
  have fin : ∀ {u : Trm}, (u, p.2) ∈ eqn n P → get0 P u = get0 P p.1 := fun {u} hu => by
    rw [get0_mem ok.nd (List.mem_filter.mp hu).1, get0_mem ok.nd (v := p.2) hp]
  have hu := mem_orb hs hu
  simp only [orb, List.mem_cons, List.not_mem_nil, or_false] at hu
  rcases hu with z | z | z | z | z | z <;> subst z
  · rfl
  · exact fin (c2 _ _ h0)
  · exact fin (c2 _ _ (c2 _ _ h0))
  · exact fin (c1 _ _ h0)
  · exact fin (c2 _ _ (c1 _ _ h0))
  · exact fin (c2 _ _ (c2 _ _ (c1 _ _ h0)))
/-- closed below n, when all terms below are alike -/
theorem cl_low {P : Prt} (ok : OkP P) (nz : ∀ p ∈ P, p.2 ≠ 0) {n : Nat} (h : ∀ p ∈ P, len p.1 < n → alike P p.1) : Cl mv1 (low n P) ∧ Cl mv2 (low n P) := by
  have st : ∀ (σ : Trm → Trm), (∀ t, len t ≤ 2 → key (σ t) = key t ∧ len (σ t) = len t) → Cl σ (low n P) := fun σ hσ t v ht => by
    obtain ⟨ht, hln⟩ := List.mem_filter.mp ht
    have hln : len t < n := of_decide_eq_true hln
    have hl : len t ≤ 2 := ok.short _ ht
    obtain ⟨h1, h2⟩ := hσ t hl
    have := h _ ht hln (σ t) ((mem_wterms hl).mpr ⟨by omega, h1⟩)
    rw [get0_mem ok.nd ht] at this
    exact List.mem_filter.mpr ⟨mem_get0 this (nz _ ht), decide_eq_true (by show len (σ t) < n; omega)⟩
  exact ⟨st mv1 fun t h => ⟨key_mv1 h, len_mv1 h⟩, st mv2 fun t h => ⟨key_mv2 h, len_mv2 h⟩⟩
end Pm
end
section
set_option Elab.async false
set_option linter.all false
set_option maxRecDepth 100000
set_option maxHeartbeats 4000000
/-! PmCount: a group is alike when all its ways stand there with one number. -/
namespace Pm
open Pd
theorem nodup_len {α : Type} [DecidableEq α] : ∀ {a b : List α}, a.Nodup → (∀ x ∈ a, x ∈ b) → a.length ≤ b.length
  | [], _, _, _ => Nat.zero_le _
  | x :: a, b, ha, h => by
    rw [List.nodup_cons] at ha
    have hx : x ∈ b := h x List.mem_cons_self
    have := nodup_len (a := a) (b := b.erase x) ha.2 fun y hy => (List.mem_erase_of_ne (fun z => ha.1 (by rw [← z]; exact hy))).mpr (h y (List.mem_cons_of_mem _ hy))
    rw [List.length_erase_of_mem hx] at this
    have : 0 < b.length := List.length_pos_of_mem hx
    rw [List.length_cons]
    omega
theorem pigeon {α : Type} [DecidableEq α] {a b : List α} (ha : a.Nodup) (h : ∀ x ∈ a, x ∈ b) (hl : b.length ≤ a.length) : ∀ x ∈ b, x ∈ a := by
  intro x hx
  rcases Decidable.em (x ∈ a) with z | z
  · exact z
  · have := nodup_len (a := a) (b := b.erase x) ha fun y hy => (List.mem_erase_of_ne (fun e => z (by rw [← e]; exact hy))).mpr (h y hy)
    rw [List.length_erase_of_mem hx] at this
    have : 0 < b.length := List.length_pos_of_mem hx
    omega
def grpT (F : Prt) (k : Ltr × Wrd) : Prt := F.filter fun p => decide (key p.1 = k)
theorem grp_alike {F : Prt} (ok : OkP F) (nz : ∀ p ∈ F, p.2 ≠ 0) {t : Trm} {v : Int} (h : (t, v) ∈ F) : ((grpT F (key t)).length = (wterms (key t)).length ∧ ∀ p ∈ grpT F (key t), p.2 = v) ↔ alike F t := by
  have hl : len t ≤ 2 := ok.short _ h
  have nk : (keys (grpT F (key t))).Nodup := ok.nd.sublist (List.Sublist.map _ List.filter_sublist)
  have sub : ∀ u ∈ keys (grpT F (key t)), u ∈ wterms (key t) := fun u hu => by
    obtain ⟨p, hp, rfl⟩ := List.mem_map.mp hu
    obtain ⟨h1, h2⟩ := List.mem_filter.mp hp
    exact (mem_wterms hl).mpr ⟨ok.short p h1, of_decide_eq_true h2⟩
  have lk : (keys (grpT F (key t))).length = (grpT F (key t)).length := List.length_map ..
  constructor
  · rintro ⟨h1, h2⟩ u hu
    have := pigeon nk sub (by rw [lk, h1]; exact Nat.le_refl _) u hu
    obtain ⟨p, hp, rfl⟩ := List.mem_map.mp this
    rw [get0_mem ok.nd (t := p.1) (v := p.2) (List.mem_filter.mp hp).1, h2 p hp, get0_mem ok.nd h]
  · intro ha
    have hv : get0 F t = v := get0_mem ok.nd h
    have h3 : ∀ u ∈ wterms (key t), (u, v) ∈ F := fun u hu => mem_get0 ((ha u hu).trans hv) (nz _ h)
    refine ⟨?_, fun p hp => ?_⟩
    · refine Nat.le_antisymm ?_ ?_
      · rw [← lk]
        exact nodup_len nk sub
      · rw [← lk]
        refine nodup_len (nodup_wterms hl) fun u hu => List.mem_map.mpr ⟨(u, v), List.mem_filter.mpr ⟨h3 u hu, decide_eq_true ((mem_wterms hl).mp hu).2⟩, rfl⟩
    · have hp1 := (List.mem_filter.mp hp).1
      have := ha p.1 (sub p.1 (List.mem_map.mpr ⟨p, hp, rfl⟩))
      rw [get0_mem ok.nd (t := p.1) (v := p.2) hp1, hv] at this
      exact this
/-- alike does not see the order -/
theorem get0_perm {P F : Prt} (nP : (keys P).Nodup) (nF : (keys F).Nodup) (h : P.Perm F) (t : Trm) : get0 P t = get0 F t := by
  unfold get0
  cases e : tget P t with
  | some v =>
    have := tget_some nF (h.mem_iff.mp (tget_mem e))
    rw [this]
  | none =>
    cases e2 : tget F t with
    | none => rfl
    | some v =>
      have := tget_some nP (h.mem_iff.mpr (tget_mem e2))
      rw [e] at this
      cases this
theorem alike_perm {P F : Prt} (nP : (keys P).Nodup) (nF : (keys F).Nodup) (h : P.Perm F) (t : Trm) : alike P t ↔ alike F t := by
  unfold alike
  simp only [get0_perm nP nF h]
end Pm
end
section
set_option Elab.async false
set_option linter.all false
set_option maxRecDepth 100000
set_option maxHeartbeats 4000000
/-! PmFn1: the small defs on typed data. -/
namespace Pm
open Pd
structure LtrOk (c : Nat) (l : Ltr) : Prop where
  len : l.length = c
  pw : ∀ x ∈ l, 0 ≤ x ∧ x ≤ 2
structure TrmOk (c : Nat) (t : Trm) : Prop where
  l : ∀ x ∈ t.1, LtrOk c x
  o : LtrOk c t.2.1
  r : ∀ x ∈ t.2.2, LtrOk c x
  s : len t ≤ 2
@[simp] theorem eq_int (a b : Int) : opEq (.int a) (.int b) = some (.bl (decide (a = b))) := by simp [opEq, flat, depth, eqv]
@[simp] theorem ne_int (a b : Int) : opNe (.int a) (.int b) = some (.bl (!decide (a = b))) := by unfold opNe; rw [eq_int]
@[simp] theorem add_int (a b : Int) : opAdd (.int a) (.int b) = some (.int (a + b)) := rfl
@[simp] theorem sub_int (a b : Int) : opSub (.int a) (.int b) = some (.int (a - b)) := rfl
@[simp] theorem lt_int (a b : Int) : opLt (.int a) (.int b) = some (.bl (decide (a < b))) := rfl
@[simp] theorem le_int (a b : Int) : opLe (.int a) (.int b) = some (.bl (decide (a ≤ b))) := rfl
@[simp] theorem gt_int (a b : Int) : opGt (.int a) (.int b) = some (.bl (decide (b < a))) := rfl
@[simp] theorem ge_int (a b : Int) : opGe (.int a) (.int b) = some (.bl (decide (b ≤ a))) := rfl
@[simp] theorem bool_bl (b : Bool) : bool? (.bl b) = some b := rfl
@[simp] theorem len_tup (ds : List D) : a1 opLen [.tup ds] = some (.int ds.length) := rfl
@[simp] theorem len_lst (ds : List D) : a1 opLen [.lst ds] = some (.int ds.length) := rfl
@[simp] theorem isi_tup (ds : List D) : opIsi .tuple (.tup ds) = some (.bl true) := rfl
theorem isKeys_len {α : Type} (e : α → D) (l : List α) : (l.map e).length = l.length := List.length_map ..
theorem q_is_integer (i : Int) : g_is_integer [.int i] = some (.bl true) := rfl
theorem q_is_count (i : Int) : g_is_count [.int i] = some (.bl (decide (0 ≤ i))) := rfl
theorem q_is_number (i : Int) : g_is_number [.int i] = some (.bl true) := rfl
theorem q_is_numberR (i : Int) : g_is_number [rat i] = some (.bl true) := rfl
theorem q_is_list (ds : List D) : g_is_list [.lst ds] = some (.bl true) := rfl
@[simp] theorem top_fld (n : Int) : opFld .top (rat n) = some (.int n) := rfl
@[simp] theorem bot_fld (n : Int) : opFld .bottom (rat n) = some (.int 1) := rfl
@[simp] theorem isi_rat (n : Int) : opIsi (.cls .rat) (rat n) = some (.bl true) := rfl
@[simp] theorem isi_int (n : Int) : opIsi (.cls .rat) (.int n) = some (.bl false) := rfl
theorem q_divisor_of (n : Int) : g_divisor_of [.int n, .int 1] = some (.int 1) := by
  simp [g_divisor_of, Pd.m_divisor_of, run, envOf, Pd.a2, opGcd]
theorem mkRat_eq (n : Int) : Pd.mkRat [.int n, .int 1] = some (rat n) := by
  simp [Pd.mkRat, make, g_Ratio_init, m_Ratio_init, runO, envOfO, q_is_integer, q_divisor_of, sFld, fdIx, opDiv, rat]
theorem mkRat1_eq (n : Int) : Pd.mkRat1 [.int n] = some (rat n) := mkRat_eq n
theorem q_ratio_of (n : Int) : g_ratio_of [.int n] = some (rat n) := by
  simp [g_ratio_of, m_ratio_of, run, envOf, mkRat1_eq]
theorem q_ratio_ofR (n : Int) : g_ratio_of [rat n] = some (rat n) := rfl
theorem q_told_pairR (n : Int) : g_told_pair [rat n] = some (.tup [.int n, .int 1]) := rfl
theorem q_told_pair (n : Int) : g_told_pair [.int n] = some (.tup [.int n, .int 1]) := rfl
theorem small1 (n : Int) : (small n || small 1) = true := by
  rw [Bool.or_eq_true]; right; decide
theorem add_rat (a b : Int) : opAddR (rat a) (rat b) = some (rat (a + b)) := by
  show g_Ratio_add [rat a, rat b] = _
  have s1 : small 1 = true := by decide
  simp [g_Ratio_add, m_Ratio_add, run, envOf, q_told_pairR, opMul, s1, opAdd, mkRat_eq]
theorem add_ratI (a b : Int) : opAddR (rat a) (.int b) = some (rat (a + b)) := by
  show g_Ratio_add [rat a, .int b] = _
  have s1 : small 1 = true := by decide
  simp [g_Ratio_add, m_Ratio_add, run, envOf, q_told_pair, opMul, s1, opAdd, mkRat_eq]
theorem mul_rat (a b : Int) (hb : small b = true) : opMulR (rat a) (rat b) = some (rat (a * b)) := by
  show g_Ratio_mul [rat a, rat b] = _
  have s1 : small 1 = true := by decide
  simp [g_Ratio_mul, m_Ratio_mul, run, envOf, q_told_pairR, opMul, s1, hb, mkRat_eq]
theorem mul_ratI (a b : Int) (hb : small b = true) : opMulR (rat a) (.int b) = some (rat (a * b)) := by
  show g_Ratio_mul [rat a, .int b] = _
  have s1 : small 1 = true := by decide
  simp [g_Ratio_mul, m_Ratio_mul, run, envOf, q_told_pair, opMul, s1, hb, mkRat_eq]
theorem neg_rat (a : Int) : opNegR (rat a) = some (rat (-a)) := by
  show g_Ratio_neg [rat a] = _
  simp [g_Ratio_neg, m_Ratio_neg, run, envOf, mkRat_eq]
theorem eq_rat (a b : Int) : opEqR (rat a) (rat b) = some (.bl (decide (a = b))) := by
  show g_Ratio_eq [rat a, rat b] = _
  simp [g_Ratio_eq, m_Ratio_eq, run, envOf]
  by_cases h : a = b <;> simp [h]
theorem ne_rat (a b : Int) : opNeR (rat a) (rat b) = some (.bl (!decide (a = b))) := by
  unfold opNeR
  rw [eq_rat]
theorem sign_rat (a : Int) : g_Ratio_sign [rat a] = some (.int ((if a > 0 then 1 else 0) - (if a < 0 then 1 else 0))) := by
  simp [g_Ratio_sign, m_Ratio_sign, run, envOf, opInt, a1]
theorem whole_rat (a : Int) : g_Ratio_is_whole [rat a] = some (.bl true) := rfl
theorem top_rat (a : Int) : g_Ratio_top [rat a] = some (.int a) := rfl
theorem all_true {α : Type} (l : List α) : opAll (.lst (l.map fun _ => D.bl true)) = some (.bl true) := by
  unfold opAll
  have : (l.map fun _ => D.bl true).mapM bool? = some (l.map fun _ => true) := by
    induction l with
    | nil => rfl
    | cons a l ih => rw [List.map_cons, List.mapM_cons, ih]; rfl
  dsimp only
  rw [this]
  simp
theorem q_is_letter_of {c : Nat} {l : Ltr} (h : LtrOk c l) (hc : c ≤ 3) : g_is_letter_of [.int c, eL l] = some (.bl true) := by
  have hl := h.len
  have e : compL [2] (gN 2) tYes (eAnd (eCall g_is_count [eV 2]) (e2 opLe (eV 2) (eC (.int 8)))) (l.map D.int) [.i (.int c), .i (eL l), .u] = some (l.map fun _ => D.bl true, [.i (.int c), .i (eL l), .u]) := by
    refine comp_map rfl l fun x hx => ⟨[.i (.int c), .i (eL l), .i (.int x)], ?_, rfl⟩
    have := h.pw x hx
    have h1 : 0 ≤ x := this.1
    have h2 : x ≤ 8 := by omega
    simp [turn, q_is_count, h1, opLe, h2]
  have hn : l.length ≤ 1000000 := by omega
  have ne : eComp [2] (iT (eV 1)) (gN 2) tYes (eAnd (eCall g_is_count [eV 2]) (e2 opLe (eV 2) (eC (.int 8)))) [.i (.int c), .i (eL l), .u] = some (.lst (l.map fun _ => D.bl true), [.i (.int c), .i (eL l), .u]) := by
    rw [eComp_ap, iT_ap (eV 1) _ (l.map D.int) _ rfl, Option.bind_some, if_pos (by rw [List.length_map]; exact hn)]
    show (compL _ _ _ _ _ [.i (.int c), .i (eL l), .u]).bind _ = _
    rw [e]
    rfl
  simp [g_is_letter_of, m_is_letter_of, run, envOf, eL, hl] at ne ⊢
  rw [ne]
  have := all_true l
  simp [a1, this]
end Pm
end
section
set_option Elab.async false
set_option linter.all false
set_option maxRecDepth 100000
set_option maxHeartbeats 4000000
/-! PmFn2: words, terms, parts; a form made. -/
namespace Pm
open Pd
theorem comp_valF {α : Type} {vs : List Nat} {i : I} {g : T} {t : M Bool} {e : E} {ρ ρ1 ρ0 : Env} {enc : α → D} {f : α → Option D} (xs : List α) (hi : i ρ = some (xs.map enc, ρ1)) (hl : xs.length ≤ 1000000) (hw : wipeE ρ1 vs = ρ0) (h0 : wipeE ρ0 vs = ρ0) (h : ∀ x ∈ xs, ∃ ρ', turn g t e (enc x) ρ0 = some (f x, ρ') ∧ wipeE ρ' vs = ρ0) :
    eComp vs i g t e ρ = some (.lst (xs.filterMap f), ρ0) := by
  rw [eComp_ap, hi, Option.bind_some, if_pos (by rw [List.length_map]; exact hl)]
  dsimp only
  rw [hw, comp_fm h0 xs h]
  rfl
theorem comp_val {α : Type} {vs : List Nat} {i : I} {g : T} {t : M Bool} {e : E} {ρ ρ1 ρ0 : Env} {enc : α → D} {f : α → D} (xs : List α) (hi : i ρ = some (xs.map enc, ρ1)) (hl : xs.length ≤ 1000000) (hw : wipeE ρ1 vs = ρ0) (h0 : wipeE ρ0 vs = ρ0) (h : ∀ x ∈ xs, ∃ ρ', turn g t e (enc x) ρ0 = some (some (f x), ρ') ∧ wipeE ρ' vs = ρ0) :
    eComp vs i g t e ρ = some (.lst (xs.map f), ρ0) := by
  rw [comp_valF (f := fun x => some (f x)) xs hi hl hw h0 h, List.filterMap_eq_map']
@[simp] theorem all_map {α : Type} (l : List α) : a1 opAll [.lst (l.map fun _ => D.bl true)] = some (.bl true) := all_true l
theorem q_is_word_of {c : Nat} {w : Wrd} (h : ∀ l ∈ w, LtrOk c l) (hw : w.length ≤ 8) (hc : c ≤ 3) : g_is_word_of [.int c, eW w] = some (.bl true) := by
  have ne : eComp [2] (iT (eV 1)) (gN 2) tYes (eCall g_is_letter_of [eV 0, eV 2]) [.i (.int c), .i (eW w), .u] = some (.lst (w.map fun _ => D.bl true), [.i (.int c), .i (eW w), .u]) :=
    comp_val (enc := eL) w (iT_ap (eV 1) _ _ _ rfl) (by omega) rfl rfl fun l hl => ⟨[.i (.int c), .i (eW w), .i (eL l)], by simp [turn, q_is_letter_of (h l hl) hc], rfl⟩
  have h8 : ¬ (8 : Int) < w.length := by omega
  simp [g_is_word_of, m_is_word_of, run, envOf, eW, h8] at ne ⊢
  simp [ne]
theorem q_term_length (t : Trm) : g_term_length [eT t] = some (.int ((t.1.length : Int) + 1 + t.2.2.length)) := by
  simp [g_term_length, m_term_length, run, envOf, eT, opIx, atD, eW]
theorem q_is_term {c : Nat} {t : Trm} (h : TrmOk c t) (hc : c ≤ 3) : g_is_term [.int c, eT t] = some (.bl true) := by
  have hs := h.s
  unfold len at hs
  have h1 := q_is_word_of h.l (by omega) hc
  have h2 := q_is_letter_of h.o hc
  have h3 := q_is_word_of h.r (by omega) hc
  have h4 := q_term_length t
  unfold eT at h4
  have h5 : (t.1.length : Int) + 1 + t.2.2.length ≤ 8 := by omega
  simp [g_is_term, m_is_term, run, envOf, eT, h1, h2, h3, h4, h5]
theorem q_is_term_part {c : Nat} {t : Trm} {n : Int} (h : TrmOk c t) (hc : c ≤ 3) : g_is_term_part [.int c, .tup [eT t, .int n]] = some (.bl true) := by
  simp [g_is_term_part, m_is_term_part, run, envOf, opIx, atD, q_is_term h hc, q_is_number]
theorem q_want_columns {c : Nat} (hc : c ≤ 3) : g_want_columns [.int c] = some .non := by
  have : ¬ (3 : Int) < c := by omega
  simp [g_want_columns, m_want_columns, run, envOf, q_is_count, this]
end Pm
end
section
set_option Elab.async false
set_option linter.all false
set_option maxRecDepth 100000
set_option maxHeartbeats 4000000
/-! PmFn3: sorting terms; the parts of a form. -/
namespace Pm
open Pd
theorem alks_map {α : Type} {e : α → D} (h : ∀ a b, alk (e a) (e b) = true) : ∀ as bs : List α, alks (as.map e) (bs.map e) = true
  | [], _ => by simp [alks]
  | _ :: _, [] => by simp [alks]
  | a :: as, b :: bs => by rw [List.map_cons, List.map_cons, alks, h, alks_map h as bs]; rfl
theorem alkI (a b : Int) : alk (.int a) (.int b) = true := by simp [alk]
theorem alkL (a b : Ltr) : alk (eL a) (eL b) = true := by unfold eL; rw [alk]; exact alks_map alkI a b
theorem alkW (a b : Wrd) : alk (eW a) (eW b) = true := by unfold eW; rw [alk]; exact alks_map alkL a b
theorem alkT (a b : Trm) : alk (eT a) (eT b) = true := by simp [eT, alk, alks, alkW, alkL]
theorem sort_perm {α : Type} (e : α → D) (l : List α) : ∃ l' : List α, l'.Perm l ∧ sortD (l.map e) = l'.map e := by
  have h : (sortD (l.map e)).Perm (l.map e) := List.mergeSort_perm _ _
  generalize sortD (l.map e) = s at h
  have key : ∀ (s t : List D), s.Perm t → ∀ l : List α, t = l.map e → ∃ l' : List α, l'.Perm l ∧ s = l'.map e := by
    intro s t h
    induction h with
    | nil => intro l hl; cases l with
      | nil => exact ⟨[], .nil, rfl⟩
      | cons _ _ => cases hl
    | cons x h ih => intro l hl; cases l with
      | nil => cases hl
      | cons a l =>
        obtain ⟨e1, e2⟩ := List.cons.inj hl
        obtain ⟨l', p, q⟩ := ih l e2
        exact ⟨a :: l', p.cons a, by rw [q, e1]; rfl⟩
    | swap x y l0 => intro l hl; match l, hl with
      | [], hl => cases hl
      | [_], hl => cases hl
      | a :: b :: l, hl =>
        obtain ⟨e1, e2⟩ := List.cons.inj hl
        obtain ⟨e3, e4⟩ := List.cons.inj e2
        exact ⟨b :: a :: l, List.Perm.swap a b l, by rw [e1, e3, e4]; rfl⟩
    | trans _ _ h1 h2 => intro l hl; obtain ⟨l2, p2, q2⟩ := h2 l hl; obtain ⟨l1, p1, q1⟩ := h1 l2 q2; exact ⟨l1, p1.trans p2, q1⟩
  exact key s _ h l rfl
theorem allAlk_map {α : Type} {e : α → D} (h : ∀ a b, alk (e a) (e b) = true) (l : List α) : allAlk (l.map e) = true := by
  unfold allAlk
  rw [List.all_eq_true]
  intro x hx
  rw [List.all_eq_true]
  intro y hy
  obtain ⟨a, _, rfl⟩ := List.mem_map.mp hx
  obtain ⟨b, _, rfl⟩ := List.mem_map.mp hy
  exact h a b
theorem sorted_T {d : D} (K : List Trm) (hd : seq? d = some (K.map eT)) (hn : K.length ≤ 1000) : ∃ K' : List Trm, K'.Perm K ∧ opSorted d = some (.lst (K'.map eT)) := by
  obtain ⟨K', p, e⟩ := sort_perm eT K
  refine ⟨K', p, ?_⟩
  unfold opSorted
  rw [hd]
  dsimp only
  have h1 : srtOk (K.map eT) = true := by
    unfold srtOk
    have : (K.map eT).all fullT = true := by
      rw [List.all_eq_true]
      intro x hx
      obtain ⟨a, _, rfl⟩ := List.mem_map.mp hx
      rfl
    rw [this]
    simp
  have h2 : depths (K.map eT) ≤ 8 := Nat.le_trans (depths_map depT K) (by decide)
  rw [if_pos ⟨allAlk_map alkT K, h1, by rw [List.length_map]; exact hn, h2⟩, e]
theorem q_wholes (ns : List Int) (hn : ns.length ≤ 1000000) : g_wholes [.lst (ns.map rat)] = some (.tup [.int 1, .lst (ns.map D.int)]) := by
  obtain ⟨ρ', h1, s, rfl⟩ := for_inv (g := gN 2) (b := sAsg (eCall (Pd.a2 opLcm) [(eV 1), (e1 (opFld .bottom) (eV 2))]) (gN 1)) (enc := rat) (fun _ ρ => ∃ s, ρ = [.i (.lst (ns.map rat)), .i (.int 1), s]) ns [.i (.lst (ns.map rat)), .i (.int 1), .u] ⟨_, rfl⟩ (fun x ys ρ ⟨s, hs⟩ => by
    subst hs
    exact ⟨_, _, rfl, by simp [Pd.a2, opLcm]; rfl, _, rfl⟩)
  have h2 : eComp [2] (iL (eV 0)) (gN 2) tYes (e2 opMul (e1 (opFld .top) (eV 2)) (e2 opDiv (eV 1) (e1 (opFld .bottom) (eV 2)))) [.i (.lst (ns.map rat)), .i (.int 1), s] = some (.lst (ns.map D.int), [.i (.lst (ns.map rat)), .i (.int 1), .u]) :=
    comp_val (enc := rat) ns (iL_ap (eV 0) _ _ _ rfl) hn rfl rfl fun n _ => ⟨[.i (.lst (ns.map rat)), .i (.int 1), .i (rat n)], by
      have s1 : small 1 = true := by decide
      simp [turn, opDiv, opMul, s1], rfl⟩
  unfold g_wholes Pd.m_wholes
  simp [run, envOf, iL_ap (eV 0) [.i (.lst (ns.map rat)), .i (.int 1), .u] _ _ rfl, h1, h2]
end Pm
end
section
set_option Elab.async false
set_option linter.all false
set_option maxRecDepth 100000
set_option maxHeartbeats 4000000
/-! PmFn4: a form made of parts. -/
namespace Pm
open Pd
theorem getO_enc {α β : Type} [DecidableEq α] {e : α → D} {f : β → D} (h : EncK e) (hd : ∀ a, depth (e a) ≤ 8) {m : List (α × β)} {k : Nat} {a b : E} {ρ ρ1 ρ2 : Env} {x : α} {y : D} (h0 : ownD? k ρ = some ((), ρ)) (h1 : a ρ = some (e x, ρ1)) (h2 : b ρ1 = some (y, ρ2)) (h3 : own? k ρ2 = some (.dic (encM e f m), ρ2)) :
    eGetO k a b ρ = some (((tget m x).map f).getD y, ρ2) := by
  unfold eGetO
  rw [bnd_some h0, bnd_some h1, bnd_some h2, bnd_some h3]
  dsimp only
  rw [if_pos ⟨h.k x, hd x⟩, dget_enc h]
  rfl
theorem setD_enc {α β : Type} [DecidableEq α] {e : α → D} {f : β → D} (h : EncK e) (hd : ∀ a, depth (e a) ≤ 8) {m : List (α × β)} (hm : m.length < 1000000) (k : α) (v : β) : setD (.dic (encM e f m)) (e k) (f v) = some (.dic (encM e f (tput m k v))) := by
  have hl : (encM e f m).length < 1000000 := by unfold encM; rw [List.length_map]; exact hm
  obtain ⟨ds, hk⟩ := h.tup k
  unfold setD
  rw [hk]
  dsimp only
  rw [← hk, if_pos ⟨h.k k, hd k, hl⟩, dput_enc h]
theorem dT (t : Trm) : depth (eT t) ≤ 8 := Nat.le_trans (depT t) (by decide)
theorem dW (t : Wrd) : depth (eW t) ≤ 8 := Nat.le_trans (depW t) (by decide)
theorem q_put_more (m : Prt) (hm : m.length < 1000000) (t : Trm) (n : Int) : g_put_more (.dic (encM eT D.int m)) [eT t, .int n] = some (.non, .dic (encM eT D.int (tput m t ((tget m t).getD 0 + n)))) := by
  have h1 : eGetO 0 (eV 1) (eC (.int 0)) [.o (.dic (encM eT D.int m)), .i (eT t), .i (.int n)] = some (.int ((tget m t).getD 0), [.o (.dic (encM eT D.int m)), .i (eT t), .i (.int n)]) := by
    rw [getO_enc encT dT (x := t) (y := .int 0) rfl rfl rfl rfl]
    cases tget m t <;> rfl
  simp [g_put_more, m_put_more, runO, envOfO, h1, setD_enc encT dT hm]
theorem ix_enc {α β : Type} [DecidableEq α] {e : α → D} {f : β → D} (h : EncK e) (hd : ∀ a, depth (e a) ≤ 8) (m : List (α × β)) (k : α) : opIx (.dic (encM e f m)) (e k) = (tget m k).map f := by
  obtain ⟨ds, hk⟩ := h.tup k
  have h1 : opIx (.dic (encM e f m)) (e k) = if kOk (e k) ∧ depth (e k) ≤ 8 then dget (encM e f m) (e k) else none := by
    rw [hk]
    rfl
  rw [h1, if_pos ⟨h.k k, hd k⟩, dget_enc h]
/-- the parts of a form -/
def eFP (F : Prt) : D := .lst (F.map fun p => .tup [eT p.1, rat p.2])
theorem perm_keys {P : Prt} (nd : (keys P).Nodup) {K : List Trm} (h : K.Perm (keys P)) : (K.map fun t => (t, get0 P t)).Perm P := by
  have e : (keys P).map (fun t => (t, get0 P t)) = P := by
    have : ∀ Q : Prt, (∀ p ∈ Q, p ∈ P) → (keys Q).map (fun t => (t, get0 P t)) = Q := by
      intro Q
      induction Q with
      | nil => intro _; rfl
      | cons q Q ih =>
        intro hQ
        rw [keys, List.map_cons, List.map_cons]
        have := ih fun p hp => hQ p (List.mem_cons_of_mem _ hp)
        rw [keys] at this
        rw [this, get0_mem nd (t := q.1) (v := q.2) (hQ q List.mem_cons_self)]
    exact this P fun p hp => hp
  have := h.map fun t => (t, get0 P t)
  rw [e] at this
  exact this
theorem q_sums_told {P : Prt} (nd : (keys P).Nodup) (nz : ∀ p ∈ P, p.2 ≠ 0) (hn : P.length ≤ 1000) : ∃ F : Prt, F.Perm P ∧ g_sums_told [.int 1, .dic (encM eT D.int P)] = some (eFP F) := by
  have hk : (encM eT D.int P).map (·.1) = (keys P).map eT := by unfold encM keys; rw [List.map_map, List.map_map]; rfl
  obtain ⟨K, p, hs⟩ := sorted_T (d := .lst ((keys P).map eT)) (keys P) rfl (by rw [keys, List.length_map]; exact hn)
  refine ⟨K.map fun t => (t, get0 P t), perm_keys nd p, ?_⟩
  have hl : K.length ≤ 1000000 := by rw [p.length_eq, keys, List.length_map]; omega
  have hit : iL (eCall (a1 opSorted) [(eCall (a1 opList) [(eV 1)])]) [.i (.int 1), .i (.dic (encM eT D.int P)), .u] = some (K.map eT, [.i (.int 1), .i (.dic (encM eT D.int P)), .u]) := by
    refine iL_ap _ _ _ _ ?_
    have e1 : opList (.dic (encM eT D.int P)) = some (.lst ((keys P).map eT)) := by
      unfold opList
      dsimp only
      rw [hk]
    simp only [keys, List.map_map] at hs e1
    simp [a1, e1, hs]
  have hget : ∀ t ∈ K, opIx (.dic (encM eT D.int P)) (eT t) = some (.int (get0 P t)) ∧ get0 P t ≠ 0 := fun t ht => by
    obtain ⟨q, hq, rfl⟩ := List.mem_map.mp (p.mem_iff.mp ht)
    rw [ix_enc encT dT, tget_some nd (v := q.2) hq, get0_mem nd (v := q.2) hq]
    exact ⟨rfl, nz q hq⟩
  have hc : eComp [2] (iL (eCall (a1 opSorted) [(eCall (a1 opList) [(eV 1)])])) (gN 2) (tst (e2 opNe (e2 opIx (eV 1) (eV 2)) (eC (.int 0)))) (eTup [(eV 2), (eCall Pd.mkRat [(e2 opIx (eV 1) (eV 2)), (eV 0)])]) [.i (.int 1), .i (.dic (encM eT D.int P)), .u] = some (.lst (K.map fun t => .tup [eT t, rat (get0 P t)]), [.i (.int 1), .i (.dic (encM eT D.int P)), .u]) :=
    comp_val (enc := eT) K hit hl rfl rfl fun t ht => ⟨[.i (.int 1), .i (.dic (encM eT D.int P)), .i (eT t)], by
      obtain ⟨h1, h2⟩ := hget t ht
      simp [turn, h1, h2, mkRat_eq], rfl⟩
  simp [g_sums_told, m_sums_told, run, envOf, hc, eFP]
end Pm
end
section
set_option Elab.async false
set_option linter.all false
set_option maxRecDepth 100000
set_option maxHeartbeats 4000000
/-! PmFn5: parts_joined, Form. -/
namespace Pm
open Pd
/-- the parts as they are handed to a form -/
def eHP (P : Prt) : D := .lst (P.map fun p => .tup [eT p.1, .int p.2])
theorem tput_new {Q : Prt} {t : Trm} {n : Int} (h : t ∉ keys Q) : tput Q t n = Q ++ [(t, n)] := by
  unfold tput
  rw [if_neg fun z => h (thas_iff.mp z)]
theorem q_parts_joined {P : Prt} (nd : (keys P).Nodup) (nz : ∀ p ∈ P, p.2 ≠ 0) (hn : P.length ≤ 400) : ∃ F : Prt, F.Perm P ∧ g_parts_joined [eHP P] = some (eFP F) := by
  obtain ⟨F, pF, hF⟩ := q_sums_told nd nz (by omega)
  refine ⟨F, pF, ?_⟩
  have h1 : eComp [5, 6] (iL (eV 0)) (gT [(gN 5), (gN 6)]) tYes (eCall g_ratio_of [(eV 6)]) [.i (eHP P), .u, .u, .u, .u, .u, .u] = some (.lst (P.map fun p => rat p.2), [.i (eHP P), .u, .u, .u, .u, .u, .u]) :=
    comp_val (enc := fun p : Trm × Int => D.tup [eT p.1, .int p.2]) P (iL_ap (eV 0) _ _ _ rfl) (by omega) rfl rfl fun p _ => ⟨[.i (eHP P), .u, .u, .u, .u, .i (eT p.1), .i (.int p.2)], by simp [turn, q_ratio_of], rfl⟩
  have h2 := q_wholes (P.map (·.2)) (by rw [List.length_map]; omega)
  rw [List.map_map, List.map_map] at h2
  have h2' : g_wholes [.lst (P.map fun p => rat p.2)] = some (.tup [.int 1, .lst (P.map fun p => D.int p.2)]) := h2
  obtain ⟨ρ', h3, Q, s4, s5, s6, hQ, rfl⟩ := for_inv (g := gT [(gT [(gN 5), (gN 6)]), (gN 4)]) (b := sEx (eCallO g_put_more 1 [(eV 5), (eV 4)])) (enc := fun p : Trm × Int => D.tup [D.tup [eT p.1, .int p.2], .int p.2])
    (fun rem ρ => ∃ (Q : Prt) (s4 s5 s6 : Sl), Q ++ rem = P ∧ ρ = [.i (eHP P), .o (.dic (encM eT D.int Q)), .i (.int 1), .i (.lst (P.map fun p => D.int p.2)), s4, s5, s6]) P
    [.i (eHP P), .o (.dic []), .i (.int 1), .i (.lst (P.map fun p => D.int p.2)), .u, .u, .u] ⟨[], .u, .u, .u, rfl, rfl⟩ (fun x ys ρ ⟨Q, s4, s5, s6, hQ, hs⟩ => by
      subst hs
      have nQ : x.1 ∉ keys Q := by
        intro z
        have : (keys (Q ++ x :: ys)).Nodup := by rw [hQ]; exact nd
        rw [keys, List.map_append, List.nodup_append] at this
        exact this.2.2 x.1 z x.1 (by simp) rfl
      have hQl : Q.length < 1000000 := by
        have := congrArg List.length hQ
        rw [List.length_append] at this
        omega
      have h4 := q_put_more Q hQl x.1 x.2
      rw [tget_none nQ] at h4
      have e0 : (none : Option Int).getD 0 + x.2 = x.2 := by simp
      rw [e0, tput_new nQ] at h4
      refine ⟨[.i (eHP P), .o (.dic (encM eT D.int Q)), .i (.int 1), .i (.lst (P.map fun p => D.int p.2)), .i (.int x.2), .i (eT x.1), .i (.int x.2)], [.i (eHP P), .o (.dic (encM eT D.int (Q ++ [(x.1, x.2)]))), .i (.int 1), .i (.lst (P.map fun p => D.int p.2)), .i (.int x.2), .i (eT x.1), .i (.int x.2)], by simp, by simp [h4], Q ++ [(x.1, x.2)], _, _, _, by simpa using hQ, rfl⟩)
  have hQ' : Q = P := by simpa using hQ
  subst hQ'
  have hz : iZip (eV 0) (eV 3) [.i (eHP Q), .o (.dic []), .i (.int 1), .i (.lst (Q.map fun p => D.int p.2)), .u, .u, .u] = some (Q.map fun p => D.tup [D.tup [eT p.1, .int p.2], .int p.2], [.i (eHP Q), .o (.dic []), .i (.int 1), .i (.lst (Q.map fun p => D.int p.2)), .u, .u, .u]) := by
    have e1 : ((Q.map fun p => D.tup [eT p.1, .int p.2]).zip (Q.map fun p => D.int p.2)).map (fun p => D.tup [p.1, p.2]) = Q.map fun p => D.tup [D.tup [eT p.1, .int p.2], .int p.2] := by
      rw [List.zip_map', List.map_map]
      rfl
    show some (((Q.map fun p => D.tup [eT p.1, .int p.2]).zip (Q.map fun p => D.int p.2)).map (fun p => D.tup [p.1, p.2]), _) = _
    rw [e1]
  simp [g_parts_joined, m_parts_joined, run, envOf, h1, h2', hz, h3, hF]
/-- a form -/
def eF (c : Nat) (F : Prt) : D := .ins .frm [.int c, eFP F]
theorem q_form {c : Nat} {P : Prt} (hc : c ≤ 3) (nd : (keys P).Nodup) (nz : ∀ p ∈ P, p.2 ≠ 0) (hn : P.length ≤ 400) (hv : ∀ p ∈ P, TrmOk c p.1) : ∃ F : Prt, F.Perm P ∧ make .frm g_Form_init [.int c, eHP P] = some (eF c F) := by
  obtain ⟨F, pF, hF⟩ := q_parts_joined nd nz hn
  refine ⟨F, pF, ?_⟩
  have h1 : eComp [3] (iL (eV 2)) (gN 3) tYes (eCall g_is_term_part [(eV 1), (eV 3)]) [.o (.ins .frm []), .i (.int c), .i (eHP P), .u] = some (.lst (P.map fun _ => D.bl true), [.o (.ins .frm []), .i (.int c), .i (eHP P), .u]) :=
    comp_val (enc := fun p : Trm × Int => D.tup [eT p.1, .int p.2]) P (iL_ap (eV 2) _ _ _ rfl) (by omega) rfl rfl fun p hp => ⟨[.o (.ins .frm []), .i (.int c), .i (eHP P), .i (.tup [eT p.1, .int p.2])], by simp [turn, q_is_term_part (hv p hp) hc], rfl⟩
  have h2 : g_is_list [eHP P] = some (.bl true) := rfl
  have h3 : a1 opLen [eHP P] = some (.int P.length) := by unfold eHP; rw [len_lst, List.length_map]
  have h4 : ¬ (400 : Int) < P.length := by omega
  simp [make, g_Form_init, m_Form_init, runO, envOfO, q_want_columns hc, h1, h2, h3, h4, sFld, fdIx, hF, eF]
end Pm
end
section
set_option Elab.async false
set_option linter.all false
set_option maxRecDepth 100000
set_option maxHeartbeats 4000000
/-! PmFn6: a letter's worth at a row. -/
namespace Pm
open Pd
def valZ : List (Int × Int) → Int
  | [] => 1
  | p :: z => p.2 ^ p.1.toNat * valZ z
theorem val_zip : ∀ l r : Ltr, val l r = valZ (l.zip r)
  | [], _ => by simp [val, valZ]
  | _ :: _, [] => by simp [val, valZ]
  | p :: l, x :: r => by rw [val, val_zip l r]; rfl
def Pw (l : Ltr) : Prop := ∀ x ∈ l, 0 ≤ x ∧ x ≤ 2
def Sml (r : Ltr) : Prop := ∀ x ∈ r, small x = true
theorem zip_int (l r : Ltr) : ((l.map D.int).zip (r.map D.int)).map (fun p => D.tup [p.1, p.2]) = (l.zip r).map fun p => D.tup [.int p.1, .int p.2] := by
  rw [List.zip_map, List.map_map]
  rfl
theorem mul_small {a b : Int} (h : small b = true) : opMul (.int a) (.int b) = some (.int (a * b)) := by
  show (if (small a || small b) = true then some (D.int (a * b)) else none) = _
  rw [h, Bool.or_true, if_pos rfl]
theorem q_law_at {l r : Ltr} (hl : Pw l) (hr : Sml r) : g__law_at [eL l, .lst (r.map D.int)] = some (.int (val l r)) := by
  have inner : ∀ (f p x : Int) (s5 : Sl), 0 ≤ p → p ≤ 2 → small x = true → ∃ s5', sFor (iRng (eV 3)) (gN 5) (sAsg (e2 opMul (eV 2) (eV 4)) (gN 2)) [.i (eL l), .i (.lst (r.map D.int)), .i (.int f), .i (.int p), .i (.int x), s5] = some (.nx, [.i (eL l), .i (.lst (r.map D.int)), .i (.int (f * x ^ p.toNat)), .i (.int p), .i (.int x), s5']) := by
    intro f p x s5 h0 h2 hx
    obtain ⟨ρ', h1, s, hs⟩ := for_inv (g := gN 5) (b := sAsg (e2 opMul (eV 2) (eV 4)) (gN 2)) (enc := fun j : Nat => D.int j) (fun rem ρ => ∃ s, (rem.length ≤ p.toNat) ∧ ρ = [.i (eL l), .i (.lst (r.map D.int)), .i (.int (f * x ^ (p.toNat - rem.length))), .i (.int p), .i (.int x), s]) (List.range p.toNat) [.i (eL l), .i (.lst (r.map D.int)), .i (.int f), .i (.int p), .i (.int x), s5] ⟨s5, by simp⟩ (fun a ys ρ ⟨s, hn, hρ⟩ => by
      subst hρ
      have hm : opMul (.int (f * x ^ (p.toNat - (a :: ys).length))) (.int x) = some (.int (f * x ^ (p.toNat - (a :: ys).length) * x)) := by
        exact mul_small hx
      refine ⟨[.i (eL l), .i (.lst (r.map D.int)), .i (.int (f * x ^ (p.toNat - (a :: ys).length))), .i (.int p), .i (.int x), .i (.int a)], [.i (eL l), .i (.lst (r.map D.int)), .i (.int (f * x ^ (p.toNat - ys.length))), .i (.int p), .i (.int x), .i (.int a)], by simp, ?_, _, by rw [List.length_cons] at hn; omega, rfl⟩
      rw [List.length_cons] at hn
      have e : p.toNat - ys.length = (p.toNat - (a :: ys).length) + 1 := by rw [List.length_cons]; omega
      have e2 : f * x ^ (p.toNat - (a :: ys).length) * x = f * x ^ (p.toNat - ys.length) := by
        rw [e, Int.pow_succ]
        grind
      rw [← e2]
      simp only [List.length_cons] at hm ⊢
      simp [hm])
    refine ⟨s, ?_⟩
    rw [sFor_ap, iRng_ap (eV 3) _ p [.i (eL l), .i (.lst (r.map D.int)), .i (.int f), .i (.int p), .i (.int x), s5] rfl (by omega) (by omega), Option.bind_some, h1, hs.2]
    simp
  obtain ⟨ρ', h1, f, s3, s4, s5, hf, hs⟩ := for_inv (g := gT [(gN 3), (gN 4)]) (b := sFor (iRng (eV 3)) (gN 5) (sAsg (e2 opMul (eV 2) (eV 4)) (gN 2))) (enc := fun p : Int × Int => D.tup [.int p.1, .int p.2])
    (fun rem ρ => ∃ f s3 s4 s5, (f * valZ rem = val l r ∧ ∀ q ∈ rem, 0 ≤ q.1 ∧ q.1 ≤ 2 ∧ small q.2 = true) ∧ ρ = [.i (eL l), .i (.lst (r.map D.int)), .i (.int f), s3, s4, s5]) (l.zip r) [.i (eL l), .i (.lst (r.map D.int)), .i (.int 1), .u, .u, .u]
    ⟨1, _, _, _, ⟨by rw [val_zip]; omega, fun q hq => by
      obtain ⟨h1, h2⟩ := List.of_mem_zip (show (q.1, q.2) ∈ l.zip r from hq)
      exact ⟨(hl _ h1).1, (hl _ h1).2, hr _ h2⟩⟩, rfl⟩ (fun a ys ρ ⟨f, s3, s4, s5, ⟨hf, hq⟩, hρ⟩ => by
      subst hρ
      obtain ⟨b0, b1, b2⟩ := hq a List.mem_cons_self
      obtain ⟨s5', h⟩ := inner f a.1 a.2 s5 b0 b1 b2
      exact ⟨[.i (eL l), .i (.lst (r.map D.int)), .i (.int f), .i (.int a.1), .i (.int a.2), s5], _, by simp, h, _, _, _, _, ⟨by rw [← hf, valZ]; grind, fun q hq' => hq q (List.mem_cons_of_mem _ hq')⟩, rfl⟩)
  have hz : iZip (eV 0) (eV 1) [.i (eL l), .i (.lst (r.map D.int)), .i (.int 1), .u, .u, .u] = some ((l.zip r).map fun p => D.tup [.int p.1, .int p.2], [.i (eL l), .i (.lst (r.map D.int)), .i (.int 1), .u, .u, .u]) := by
    rw [← zip_int]
    rfl
  have hf' : f = val l r := by rw [← hf.1, valZ]; omega
  unfold g__law_at Pd.m__law_at
  simp [run, envOf, hz, h1, hs, hf']
end Pm
end
section
set_option Elab.async false
set_option linter.all false
set_option maxRecDepth 100000
set_option maxHeartbeats 4000000
/-! PmFn7: the same by own numbers. -/
namespace Pm
open Pd
theorem zip_rat (l r : Ltr) : ((l.map D.int).zip (r.map rat)).map (fun p => D.tup [p.1, p.2]) = (l.zip r).map fun p => D.tup [.int p.1, rat p.2] := by
  rw [List.zip_map, List.map_map]
  rfl
theorem q_worth_at {l r : Ltr} (hl : Pw l) (hr : Sml r) : g_worth_at [eL l, .tup (r.map rat)] = some (rat (val l r)) := by
  have inner : ∀ (f p x : Int) (s6 : Sl), 0 ≤ p → p ≤ 2 → small x = true → ∃ s6', sFor (iRng (eV 4)) (gN 6) (sPar 2 3 (e2 opMul (eV 2) (e1 (opFld .top) (eV 5))) (e2 opMul (eV 3) (e1 (opFld .bottom) (eV 5)))) [.i (eL l), .i (.tup (r.map rat)), .i (.int f), .i (.int 1), .i (.int p), .i (rat x), s6] = some (.nx, [.i (eL l), .i (.tup (r.map rat)), .i (.int (f * x ^ p.toNat)), .i (.int 1), .i (.int p), .i (rat x), s6']) := by
    intro f p x s6 h0 h2 hx
    obtain ⟨ρ', h1, s, hs⟩ := for_inv (g := gN 6) (b := sPar 2 3 (e2 opMul (eV 2) (e1 (opFld .top) (eV 5))) (e2 opMul (eV 3) (e1 (opFld .bottom) (eV 5)))) (enc := fun j : Nat => D.int j) (fun rem ρ => ∃ s, (rem.length ≤ p.toNat) ∧ ρ = [.i (eL l), .i (.tup (r.map rat)), .i (.int (f * x ^ (p.toNat - rem.length))), .i (.int 1), .i (.int p), .i (rat x), s]) (List.range p.toNat) [.i (eL l), .i (.tup (r.map rat)), .i (.int f), .i (.int 1), .i (.int p), .i (rat x), s6] ⟨s6, by simp⟩ (fun a ys ρ ⟨s, hn, hρ⟩ => by
      subst hρ
      have hm : opMul (.int (f * x ^ (p.toNat - (a :: ys).length))) (.int x) = some (.int (f * x ^ (p.toNat - (a :: ys).length) * x)) := mul_small hx
      have hb : opMul (.int 1) (.int 1) = some (.int 1) := rfl
      refine ⟨[.i (eL l), .i (.tup (r.map rat)), .i (.int (f * x ^ (p.toNat - (a :: ys).length))), .i (.int 1), .i (.int p), .i (rat x), .i (.int a)], [.i (eL l), .i (.tup (r.map rat)), .i (.int (f * x ^ (p.toNat - ys.length))), .i (.int 1), .i (.int p), .i (rat x), .i (.int a)], by simp, ?_, _, by rw [List.length_cons] at hn; omega, rfl⟩
      rw [List.length_cons] at hn
      have e : p.toNat - ys.length = (p.toNat - (a :: ys).length) + 1 := by rw [List.length_cons]; omega
      have e2 : f * x ^ (p.toNat - (a :: ys).length) * x = f * x ^ (p.toNat - ys.length) := by
        rw [e, Int.pow_succ]
        grind
      rw [← e2]
      simp only [List.length_cons] at hm ⊢
      simp [sPar, hm, hb])
    refine ⟨s, ?_⟩
    rw [sFor_ap, iRng_ap (eV 4) _ p [.i (eL l), .i (.tup (r.map rat)), .i (.int f), .i (.int 1), .i (.int p), .i (rat x), s6] rfl (by omega) (by omega), Option.bind_some, h1, hs.2]
    simp
  obtain ⟨ρ', h1, f, s3, s4, s5, hf, hs⟩ := for_inv (g := gT [(gN 4), (gN 5)]) (b := sFor (iRng (eV 4)) (gN 6) (sPar 2 3 (e2 opMul (eV 2) (e1 (opFld .top) (eV 5))) (e2 opMul (eV 3) (e1 (opFld .bottom) (eV 5))))) (enc := fun p : Int × Int => D.tup [.int p.1, rat p.2])
    (fun rem ρ => ∃ f s3 s4 s5, (f * valZ rem = val l r ∧ ∀ q ∈ rem, 0 ≤ q.1 ∧ q.1 ≤ 2 ∧ small q.2 = true) ∧ ρ = [.i (eL l), .i (.tup (r.map rat)), .i (.int f), .i (.int 1), s3, s4, s5]) (l.zip r) [.i (eL l), .i (.tup (r.map rat)), .i (.int 1), .i (.int 1), .u, .u, .u]
    ⟨1, _, _, _, ⟨by rw [val_zip]; omega, fun q hq => by
      obtain ⟨h1, h2⟩ := List.of_mem_zip (show (q.1, q.2) ∈ l.zip r from hq)
      exact ⟨(hl _ h1).1, (hl _ h1).2, hr _ h2⟩⟩, rfl⟩ (fun a ys ρ ⟨f, s3, s4, s5, ⟨hf, hq⟩, hρ⟩ => by
      subst hρ
      obtain ⟨b0, b1, b2⟩ := hq a List.mem_cons_self
      obtain ⟨s5', h⟩ := inner f a.1 a.2 s5 b0 b1 b2
      exact ⟨[.i (eL l), .i (.tup (r.map rat)), .i (.int f), .i (.int 1), .i (.int a.1), .i (rat a.2), s5], _, by simp, h, _, _, _, _, ⟨by rw [← hf, valZ]; grind, fun q hq' => hq q (List.mem_cons_of_mem _ hq')⟩, rfl⟩)
  have hz : iZip (eV 0) (eV 1) [.i (eL l), .i (.tup (r.map rat)), .i (.int 1), .i (.int 1), .u, .u, .u] = some ((l.zip r).map fun p => D.tup [.int p.1, rat p.2], [.i (eL l), .i (.tup (r.map rat)), .i (.int 1), .i (.int 1), .u, .u, .u]) := by
    rw [← zip_rat]
    rfl
  have hf' : f = val l r := by rw [← hf.1, valZ]; omega
  have h0 : sPar 2 3 (eC (.int 1)) (eC (.int 1)) = sPar 2 3 (eC (.int 1)) (eC (.int 1)) := rfl
  unfold g_worth_at Pd.m_worth_at
  simp [run, envOf, hz, h1, hs, hf', mkRat_eq]
end Pm
end
section
set_option Elab.async false
set_option linter.all false
set_option maxRecDepth 100000
set_option maxHeartbeats 4000000
/-! PmFn8: the law's sums. -/
namespace Pm
open Pd
/-- a row of small numbers -/
structure RowOk (c : Nat) (r : Ltr) : Prop where
  len : r.length = c
  rng : ∀ x ∈ r, -2 ≤ x ∧ x ≤ 3
theorem RowOk.sml {c : Nat} {r : Ltr} (h : RowOk c r) : Sml r := fun x hx => by
  have := h.rng x hx
  exact small_of (by omega) (by omega)
theorem pow_b {p x : Int} (h : 0 ≤ p ∧ p ≤ 2) (hx : -2 ≤ x ∧ x ≤ 3) : (x ^ p.toNat).natAbs ≤ 9 := by
  have hp : p = 0 ∨ p = 1 ∨ p = 2 := by omega
  have hx : x = -2 ∨ x = -1 ∨ x = 0 ∨ x = 1 ∨ x = 2 ∨ x = 3 := by omega
  rcases hp with rfl | rfl | rfl <;> rcases hx with rfl | rfl | rfl | rfl | rfl | rfl <;> decide
theorem val_b {c : Nat} {l r : Ltr} (hc : c ≤ 2) (hl : LtrOk c l) (hr : RowOk c r) : (val l r).natAbs ≤ 81 := by
  obtain ⟨l1, l2⟩ := hl
  obtain ⟨r1, r2⟩ := hr
  match c, hc, l, l1, l2, r, r1, r2 with
  | 0, _, [], _, _, [], _, _ => decide
  | 1, _, [p], _, l2, [x], _, r2 =>
    have := pow_b (l2 p (by simp)) (r2 x (by simp))
    simp only [val, Int.mul_one]
    omega
  | 2, _, [p, q], _, l2, [x, y], _, r2 =>
    have h1 := pow_b (l2 p (by simp)) (r2 x (by simp))
    have h2 := pow_b (l2 q (by simp)) (r2 y (by simp))
    simp only [val, Int.mul_one]
    rw [Int.natAbs_mul]
    exact Nat.mul_le_mul h1 h2
theorem small_abs {i : Int} {n : Nat} (h : i.natAbs ≤ n) (hn : n < 2 ^ 64) : small i = true := by
  unfold small
  simp
  omega
end Pm
end
section
set_option Elab.async false
set_option linter.all false
set_option maxRecDepth 100000
set_option maxHeartbeats 4000000
/-! PmFn9: _law_sum. -/
namespace Pm
open Pd
def eRow (r : Ltr) : D := .lst (r.map D.int)
def eRows (rows : List Ltr) : D := .lst (rows.map eRow)
/-- what the sums need -/
structure Fit (c : Nat) (w : Wrd) (rows : List Ltr) : Prop where
  c2 : c ≤ 2
  w : ∀ l ∈ w, LtrOk c l
  r : ∀ r ∈ rows, RowOk c r
theorem q_at {c : Nat} {l r : Ltr} (hl : LtrOk c l) (hr : RowOk c r) : g__law_at [eL l, eRow r] = some (.int (val l r)) := q_law_at hl.pw hr.sml
theorem q_law_sum0 (rows : List Ltr) : g__law_sum [eW [], eRows rows] = some (.int 1) := by
  obtain ⟨ρ', h1, s3, s4, hs⟩ := for_inv (g := gN 3) (b := sFor (iDown (eCall (a1 opLen) [(eV 0)]) (eC (.int 0)) (e1 opNeg (eC (.int 1)))) (gN 4) (sAsg (e2 opAdd (eIxO 2 (eV 4)) (e2 opMul (eIxO 2 (e2 opSub (eV 4) (eC (.int 1)))) (eCall g__law_at [(e2 opIx (eV 0) (e2 opSub (eV 4) (eC (.int 1)))), (eV 3)]))) (gSub 2 (eV 4)))) (enc := eRow)
    (fun _ ρ => ∃ s3 s4, ρ = [.i (eW []), .i (eRows rows), .o (.lst [.int 1]), s3, s4]) rows [.i (eW []), .i (eRows rows), .o (.lst [.int 1]), .u, .u] ⟨_, _, rfl⟩ (fun a ys ρ ⟨s3, s4, hρ⟩ => by
      subst hρ
      exact ⟨[.i (eW []), .i (eRows rows), .o (.lst [.int 1]), .i (eRow a), s4], [.i (eW []), .i (eRows rows), .o (.lst [.int 1]), .i (eRow a), s4], by simp, rfl, _, _, rfl⟩)
  have hc : opCat (.lst [.int 1]) (.lst []) = some (.lst [.int 1]) := rfl
  have hr : opRep (.lst [.int 0]) (.int 0) = some (.lst []) := rfl
  have hi : iL (eV 1) [.i (eW []), .i (eRows rows), .o (.lst [.int 1]), .u, .u] = some (rows.map eRow, [.i (eW []), .i (eRows rows), .o (.lst [.int 1]), .u, .u]) := rfl
  have h0 : a1 opLen [eW []] = some (.int 0) := rfl
  simp [g__law_sum, m__law_sum, run, envOf, hc, hr, h0, hi, h1, hs, opNeg, opIx, atD]
abbrev sumB : S := (sAsg (e2 opAdd (eIxO 2 (eV 4)) (e2 opMul (eIxO 2 (e2 opSub (eV 4) (eC (.int 1)))) (eCall g__law_at [(e2 opIx (eV 0) (e2 opSub (eV 4) (eC (.int 1)))), (eV 3)]))) (gSub 2 (eV 4)))
abbrev sumL : S := (sFor (iDown (eCall (a1 opLen) [(eV 0)]) (eC (.int 0)) (e1 opNeg (eC (.int 1)))) (gN 4) (sAsg (e2 opAdd (eIxO 2 (eV 4)) (e2 opMul (eIxO 2 (e2 opSub (eV 4) (eC (.int 1)))) (eCall g__law_at [(e2 opIx (eV 0) (e2 opSub (eV 4) (eC (.int 1)))), (eV 3)]))) (gSub 2 (eV 4))))
theorem q_law_sum1 {c : Nat} {x : Ltr} {rows : List Ltr} (h : Fit c [x] rows) : g__law_sum [eW [x], eRows rows] = some (.int (Sm [x] rows)) := by
  obtain ⟨ρ', h1, a, s3, s4, hs⟩ := for_inv (g := gN 3) (b := sumL) (enc := eRow)
    (fun rem ρ => ∃ a s3 s4, ((∀ r ∈ rem, RowOk c r) ∧ a + Sm [x] rem = Sm [x] rows) ∧ ρ = [.i (eW [x]), .i (eRows rows), .o (.lst [.int 1, .int a]), s3, s4]) rows [.i (eW [x]), .i (eRows rows), .o (.lst [.int 1, .int 0]), .u, .u] ⟨0, _, _, ⟨h.r, by omega⟩, rfl⟩ (fun r ys ρ ⟨a, s3, s4, ⟨hr, ha⟩, hρ⟩ => by
      subst hρ
      have u1 := q_at (h.w x (by simp)) (hr r List.mem_cons_self)
      have u2 : opMul (.int 1) (.int (val x r)) = some (.int (1 * val x r)) := mul_small (small_abs (val_b h.c2 (h.w x (by simp)) (hr r List.mem_cons_self)) (by decide))
      have u3 : iDown (eCall (a1 opLen) [(eV 0)]) (eC (.int 0)) (e1 opNeg (eC (.int 1))) [.i (eW [x]), .i (eRows rows), .o (.lst [.int 1, .int a]), .i (eRow r), s4] = some ([.int 1], [.i (eW [x]), .i (eRows rows), .o (.lst [.int 1, .int a]), .i (eRow r), s4]) := rfl
      have u4 : opIx (eW [x]) (.int 0) = some (eL x) := rfl
      refine ⟨[.i (eW [x]), .i (eRows rows), .o (.lst [.int 1, .int a]), .i (eRow r), s4], [.i (eW [x]), .i (eRows rows), .o (.lst [.int 1, .int (a + 1 * val x r)]), .i (eRow r), .i (.int 1)], by simp, ?_, _, _, _, ⟨fun q hq => hr q (List.mem_cons_of_mem _ hq), ?_⟩, rfl⟩
      · unfold sumL
        rw [sFor_ap, u3, Option.bind_some, forL_cons]
        have v1 : opIx (.lst [.int 1, .int a]) (.int 1) = some (.int a) := rfl
        have v0 : opIx (.lst [.int 1, .int a]) (.int 0) = some (.int 1) := rfl
        have v2 : ∀ z : D, setD (.lst [.int 1, .int a]) (.int 1) z = some (.lst [.int 1, z]) := fun _ => rfl
        simp [u1, u2, u4, v0, v1, v2]
      · rw [← ha]
        simp only [Sm]
        grind)
  have hc : opCat (.lst [.int 1]) (.lst [.int 0]) = some (.lst [.int 1, .int 0]) := rfl
  have hr : opRep (.lst [.int 0]) (.int 1) = some (.lst [.int 0]) := rfl
  have hi : iL (eV 1) [.i (eW [x]), .i (eRows rows), .o (.lst [.int 1, .int 0]), .u, .u] = some (rows.map eRow, [.i (eW [x]), .i (eRows rows), .o (.lst [.int 1, .int 0]), .u, .u]) := rfl
  have h0 : a1 opLen [eW [x]] = some (.int 1) := rfl
  have ha : a = Sm [x] rows := by rw [← hs.1.2]; simp [Sm]
  have hs2 := hs.2
  unfold g__law_sum Pd.m__law_sum
  simp [run, envOf, hc, hr, h0, hi, h1, hs2, opNeg, opIx, atD, ha]
end Pm
end
section
set_option Elab.async false
set_option linter.all false
set_option maxRecDepth 100000
set_option maxHeartbeats 4000000
/-! PmFn10: _law_sum of two letters; _law_result. -/
namespace Pm
open Pd
theorem iDown_ap (a b c : E) (ρ : Env) (n : Nat) (h1 : a ρ = some (.int n, ρ)) (h2 : b ρ = some (.int 0, ρ)) (h3 : c ρ = some (.int (-1), ρ)) (h4 : 0 ≤ (n : Int)) (h5 : (n : Int) ≤ 2 ^ 40) : iDown a b c ρ = some ((List.range n).map fun (j : Nat) => D.int (n - j), ρ) := by
  unfold iDown
  rw [bnd_some h1, bnd_some h2, bnd_some h3]
  show (if 0 ≤ (n : Int) ∧ (n : Int) ≤ 2 ^ 40 then Pd.ret ((List.range (n : Int).toNat).map fun (j : Nat) => D.int (n - j)) else Pd.fail) ρ = _
  rw [if_pos ⟨h4, h5⟩]
  rfl
theorem q_law_sum2 {c : Nat} {x y : Ltr} {rows : List Ltr} (h : Fit c [x, y] rows) : g__law_sum [eW [x, y], eRows rows] = some (.int (Sm [x, y] rows)) := by
  obtain ⟨ρ', h1, a, b, s3, s4, hs⟩ := for_inv (g := gN 3) (b := sumL) (enc := eRow)
    (fun rem ρ => ∃ a b s3 s4, ((∀ r ∈ rem, RowOk c r) ∧ a + Sm [x] rem = Sm [x] rows ∧ b + a * Sm [y] rem + Sm [x, y] rem = Sm [x, y] rows) ∧ ρ = [.i (eW [x, y]), .i (eRows rows), .o (.lst [.int 1, .int a, .int b]), s3, s4]) rows [.i (eW [x, y]), .i (eRows rows), .o (.lst [.int 1, .int 0, .int 0]), .u, .u] ⟨0, 0, _, _, ⟨h.r, by omega, by omega⟩, rfl⟩ (fun r ys ρ ⟨a, b, s3, s4, ⟨hr, ha, hb⟩, hρ⟩ => by
      subst hρ
      have hx := h.w x (by simp)
      have hy := h.w y (by simp)
      have hrr := hr r List.mem_cons_self
      have u1 := q_at hx hrr
      have w1 := q_at hy hrr
      have u2 : opMul (.int 1) (.int (val x r)) = some (.int (1 * val x r)) := mul_small (small_abs (val_b h.c2 hx hrr) (by decide))
      have w2 : opMul (.int a) (.int (val y r)) = some (.int (a * val y r)) := mul_small (small_abs (val_b h.c2 hy hrr) (by decide))
      have u3 : iDown (eCall (a1 opLen) [(eV 0)]) (eC (.int 0)) (e1 opNeg (eC (.int 1))) [.i (eW [x, y]), .i (eRows rows), .o (.lst [.int 1, .int a, .int b]), .i (eRow r), s4] = some ([.int 2, .int 1], [.i (eW [x, y]), .i (eRows rows), .o (.lst [.int 1, .int a, .int b]), .i (eRow r), s4]) := iDown_ap (eCall (a1 opLen) [(eV 0)]) (eC (.int 0)) (e1 opNeg (eC (.int 1))) _ 2 rfl rfl rfl (by decide) (by decide)
      have u4 : opIx (eW [x, y]) (.int 0) = some (eL x) := rfl
      have w4 : opIx (eW [x, y]) (.int 1) = some (eL y) := rfl
      refine ⟨[.i (eW [x, y]), .i (eRows rows), .o (.lst [.int 1, .int a, .int b]), .i (eRow r), s4], [.i (eW [x, y]), .i (eRows rows), .o (.lst [.int 1, .int (a + 1 * val x r), .int (b + a * val y r)]), .i (eRow r), .i (.int 1)], by simp, ?_, _, _, _, _, ⟨fun q hq => hr q (List.mem_cons_of_mem _ hq), ?_, ?_⟩, rfl⟩
      · unfold sumL
        rw [sFor_ap, u3, Option.bind_some, forL_cons]
        have v2 : opIx (.lst [.int 1, .int a, .int b]) (.int 2) = some (.int b) := rfl
        have v1 : opIx (.lst [.int 1, .int a, .int b]) (.int 1) = some (.int a) := rfl
        have z2 : ∀ z : D, setD (.lst [.int 1, .int a, .int b]) (.int 2) z = some (.lst [.int 1, .int a, z]) := fun _ => rfl
        have v1' : opIx (.lst [.int 1, .int a, .int (b + a * val y r)]) (.int 1) = some (.int a) := rfl
        have v0' : opIx (.lst [.int 1, .int a, .int (b + a * val y r)]) (.int 0) = some (.int 1) := rfl
        have z1 : ∀ z : D, setD (.lst [.int 1, .int a, .int (b + a * val y r)]) (.int 1) z = some (.lst [.int 1, z, .int (b + a * val y r)]) := fun _ => rfl
        simp [u1, u2, u4, w1, w2, w4, v2, v1, z2, v1', v0', z1, forL_cons]
      · rw [← ha]
        simp only [Sm]
        grind
      · rw [← hb]
        simp only [Sm]
        grind)
  have hc : opCat (.lst [.int 1]) (.lst [.int 0, .int 0]) = some (.lst [.int 1, .int 0, .int 0]) := rfl
  have hr : opRep (.lst [.int 0]) (.int 2) = some (.lst [.int 0, .int 0]) := rfl
  have hi : iL (eV 1) [.i (eW [x, y]), .i (eRows rows), .o (.lst [.int 1, .int 0, .int 0]), .u, .u] = some (rows.map eRow, [.i (eW [x, y]), .i (eRows rows), .o (.lst [.int 1, .int 0, .int 0]), .u, .u]) := rfl
  have h0 : a1 opLen [eW [x, y]] = some (.int 2) := rfl
  have hb : b = Sm [x, y] rows := by rw [← hs.1.2.2]; simp [Sm]
  have hs2 := hs.2
  unfold g__law_sum Pd.m__law_sum
  simp [run, envOf, hc, hr, h0, hi, h1, hs2, opNeg, opIx, atD, hb]
theorem q_law_sum {c : Nat} {w : Wrd} {rows : List Ltr} (hw : w.length ≤ 2) (h : Fit c w rows) : g__law_sum [eW w, eRows rows] = some (.int (Sm w rows)) := by
  match w, hw, h with
  | [], _, _ => rw [q_law_sum0]; simp [Sm]
  | [x], _, h => exact q_law_sum1 h
  | [x, y], _, h => exact q_law_sum2 h
end Pm
end
section
set_option Elab.async false
set_option linter.all false
set_option maxRecDepth 100000
set_option maxHeartbeats 4000000
/-! PmFn11: _law_result. -/
namespace Pm
open Pd
theorem cut_lo (xs : List D) (n : Nat) (h : n ≤ xs.length) : cutD xs none (some (n : Int)) = xs.take n := by
  unfold cutD cutIx
  simp
theorem cut_hi (xs : List D) (n : Nat) : cutD xs (some (n : Int)) none = xs.drop n := by
  unfold cutD cutIx
  simp
  by_cases h : n ≤ xs.length
  · rw [Nat.min_eq_left h, List.take_of_length_le (by rw [List.length_drop]; exact Nat.le_refl _)]
  · rw [Nat.min_eq_right (by omega), List.drop_of_length_le (Nat.le_refl _), List.drop_of_length_le (by omega)]
    simp
/-- parts and rows that fit -/
structure FitP (c : Nat) (P : Prt) (rows : List Ltr) : Prop where
  c2 : c ≤ 2
  nd : (keys P).Nodup
  t : ∀ p ∈ P, TrmOk c p.1
  r : ∀ r ∈ rows, RowOk c r
  n : P.length ≤ 400
  m : rows.length ≤ 3
theorem pow3 {n : Nat} (h : n ≤ 3) : n = 0 ∨ n = 1 ∨ n = 2 ∨ n = 3 := by omega
theorem Sm_b {c : Nat} {w : Wrd} {rows : List Ltr} (h : Fit c w rows) (hw : w.length ≤ 2) (hr : rows.length ≤ 3) : (Sm w rows).natAbs ≤ 100000 := by
  have hv : ∀ l ∈ w, ∀ r ∈ rows, (val l r).natAbs ≤ 81 := fun l hl r hr => val_b h.c2 (h.w l hl) (h.r r hr)
  have s1 : ∀ (x : Ltr) (rs : List Ltr), (∀ r ∈ rs, (val x r).natAbs ≤ 81) → (Sm [x] rs).natAbs ≤ 81 * rs.length := by
    intro x rs
    induction rs with
    | nil => intro _; simp [Sm]
    | cons r rs ih =>
      intro hb
      have := ih fun q hq => hb q (List.mem_cons_of_mem _ hq)
      have h1 := hb r List.mem_cons_self
      simp only [Sm, List.length_cons]
      omega
  have s2 : ∀ (x y : Ltr) (rs : List Ltr), (∀ r ∈ rs, (val x r).natAbs ≤ 81) → (∀ r ∈ rs, (val y r).natAbs ≤ 81) → rs.length ≤ 3 → (Sm [x, y] rs).natAbs ≤ 19683 * rs.length := by
    intro x y rs
    induction rs with
    | nil => intro _ _ _; simp [Sm]
    | cons r rs ih =>
      intro hb hb2 hl
      rw [List.length_cons] at hl
      have i1 := ih (fun q hq => hb q (List.mem_cons_of_mem _ hq)) (fun q hq => hb2 q (List.mem_cons_of_mem _ hq)) (by omega)
      have h1 := hb r List.mem_cons_self
      have h2 := s1 y rs fun q hq => hb2 q (List.mem_cons_of_mem _ hq)
      have h3 : (val x r * Sm [y] rs).natAbs ≤ 81 * 243 := by
        rw [Int.natAbs_mul]
        exact Nat.mul_le_mul h1 (by omega)
      simp only [Sm, List.length_cons] at h3 ⊢
      omega
  match w, hw, hv with
  | [], _, _ => simp [Sm]
  | [x], _, hv => have := s1 x rows (hv x (by simp)); omega
  | [x, y], _, hv => have := s2 x y rows (hv x (by simp)) (hv y (by simp)) hr; omega
end Pm
end
section
set_option Elab.async false
set_option linter.all false
set_option maxRecDepth 100000
set_option maxHeartbeats 4000000
/-! PmFn12: _law_result. -/
namespace Pm
open Pd
theorem sum_ints {α : Type} (f : α → Int) (l : List α) : opSum (.lst (l.map fun x => D.int (f x))) = some (.int (l.map f).sum) := by
  have : (l.map fun x => D.int (f x)).mapM int? = some (l.map f) := by
    induction l with
    | nil => rfl
    | cons a l ih => rw [List.map_cons, List.mapM_cons, ih]; rfl
  show Option.map (fun is => D.int is.sum) ((l.map fun x => D.int (f x)).mapM int?) = _
  rw [this]
  rfl
theorem eRows_take (rows : List Ltr) (p : Nat) : (rows.map eRow).take p = (rows.take p).map eRow := (List.map_take ..).symm
theorem eRows_drop (rows : List Ltr) (p : Nat) : (rows.map eRow).drop p = (rows.drop p).map eRow := (List.map_drop ..).symm
theorem q_law_result {c : Nat} {P : Prt} {rows : List Ltr} (h : FitP c P rows) {p : Nat} (hp : p < rows.length) : g__law_result [.dic (encM eT D.int P), eRows rows, .int p] = some (.int (res P rows p)) := by
  have hc : eComp [3] (iD (eV 0)) (gN 3) tYes (e2 opMul (e2 opMul (e2 opMul (e2 opIx (eV 0) (eV 3)) (eCall g__law_sum [(e2 opIx (eV 3) (eC (.int 0))), (eCut (eV 1) none (some (eV 2)))])) (eCall g__law_at [(e2 opIx (eV 3) (eC (.int 1))), (e2 opIx (eV 1) (eV 2))])) (eCall g__law_sum [(e2 opIx (eV 3) (eC (.int 2))), (eCut (eV 1) (some (e2 opAdd (eV 2) (eC (.int 1)))) none)])) [.i (.dic (encM eT D.int P)), .i (eRows rows), .i (.int p), .u] =
      some (.lst (P.map fun e => D.int (e.2 * Tv e.1 rows p)), [.i (.dic (encM eT D.int P)), .i (eRows rows), .i (.int p), .u]) := by
    refine comp_val (ρ1 := [.i (.dic (encM eT D.int P)), .i (eRows rows), .i (.int p), .u]) (enc := fun e : Trm × Int => eT e.1) (f := fun e => D.int (e.2 * Tv e.1 rows p)) P ?_ (by have := h.n; omega) rfl rfl fun e he => ⟨[.i (.dic (encM eT D.int P)), .i (eRows rows), .i (.int p), .i (eT e.1)], ?_, rfl⟩
    · rw [iD_ap (eV 0) _ (encM eT D.int P) _ rfl]
      unfold encM
      rw [List.map_map]
      rfl
    · have ht := h.t e he
      have hl : e.1.1.length ≤ 2 := by have := ht.s; unfold len at this; omega
      have hr : e.1.2.2.length ≤ 2 := by have := ht.s; unfold len at this; omega
      have f1 : Fit c e.1.1 (rows.take p) := ⟨h.c2, ht.l, fun r hr => h.r r (List.mem_of_mem_take hr)⟩
      have f2 : Fit c e.1.2.2 (rows.drop (p + 1)) := ⟨h.c2, ht.r, fun r hr => h.r r (List.mem_of_mem_drop hr)⟩
      have g1 := q_law_sum hl f1
      have g2 := q_law_sum hr f2
      have hrow : RowOk c (rows.getD p []) := by
        rw [List.getD_eq_getElem?_getD, List.getElem?_eq_getElem hp, Option.getD_some]
        exact h.r _ (List.getElem_mem hp)
      have g3 := q_at ht.o hrow
      have b1 : ∀ a : Int, opMul (.int a) (.int (Sm e.1.1 (rows.take p))) = some (.int (a * Sm e.1.1 (rows.take p))) := fun a => mul_small (small_abs (Sm_b f1 hl (by have := h.m; rw [List.length_take]; omega)) (by decide))
      have b2 : ∀ a : Int, opMul (.int a) (.int (Sm e.1.2.2 (rows.drop (p + 1)))) = some (.int (a * Sm e.1.2.2 (rows.drop (p + 1)))) := fun a => mul_small (small_abs (Sm_b f2 hr (by have := h.m; rw [List.length_drop]; omega)) (by decide))
      have b3 : ∀ a : Int, opMul (.int a) (.int (val e.1.2.1 (rows.getD p []))) = some (.int (a * val e.1.2.1 (rows.getD p []))) := fun a => mul_small (small_abs (val_b h.c2 ht.o hrow) (by decide))
      have k1 : opIx (.dic (encM eT D.int P)) (eT e.1) = some (.int e.2) := by rw [ix_enc encT dT, tget_some h.nd (v := e.2) he]; rfl
      have k2 : opIx (eT e.1) (.int 0) = some (eW e.1.1) := rfl
      have k3 : opIx (eT e.1) (.int 1) = some (eL e.1.2.1) := rfl
      have k4 : opIx (eT e.1) (.int 2) = some (eW e.1.2.2) := rfl
      have k5 : opIx (eRows rows) (.int p) = some (eRow (rows.getD p [])) := by
        show atD (rows.map eRow) p = _
        unfold atD
        rw [if_pos (by omega), Int.toNat_natCast, List.getElem?_map, List.getElem?_eq_getElem hp, List.getD_eq_getElem?_getD, List.getElem?_eq_getElem hp]
        rfl
      have c1 : eCut (eV 1) none (some (eV 2)) [.i (.dic (encM eT D.int P)), .i (eRows rows), .i (.int p), .i (eT e.1)] = some (eRows (rows.take p), [.i (.dic (encM eT D.int P)), .i (eRows rows), .i (.int p), .i (eT e.1)]) := by
        show some (D.lst (cutD (rows.map eRow) none (some (p : Int))), _) = _
        rw [cut_lo _ _ (by rw [List.length_map]; omega), eRows_take]
        rfl
      have c2 : eCut (eV 1) (some (e2 opAdd (eV 2) (eC (.int 1)))) none [.i (.dic (encM eT D.int P)), .i (eRows rows), .i (.int p), .i (eT e.1)] = some (eRows (rows.drop (p + 1)), [.i (.dic (encM eT D.int P)), .i (eRows rows), .i (.int p), .i (eT e.1)]) := by
        show some (D.lst (cutD (rows.map eRow) (some ((p : Int) + 1)) none), _) = _
        have : ((p : Int) + 1) = ((p + 1 : Nat) : Int) := by omega
        rw [this, cut_hi, eRows_drop]
        rfl
      have fin : e.2 * Sm e.1.1 (rows.take p) * val e.1.2.1 (rows.getD p []) * Sm e.1.2.2 (rows.drop (p + 1)) = e.2 * Tv e.1 rows p := by
        unfold Tv
        grind
      generalize rows.getD p [] = r0 at g3 b3 k5 fin
      simp only [turn, gN_ap, tYes_ap, e2_ap, eCall_ap, args_cons, args_nil]
      simp [k1, k2, k3, k4, k5, c1, c2, g1, g2, g3, b1, b2, b3, fin]
  have hs := sum_ints (fun e : Trm × Int => e.2 * Tv e.1 rows p) P
  simp [g__law_result, m__law_result, run, envOf, hc, a1, hs, res, sumM]
end Pm
end
section
set_option Elab.async false
set_option linter.all false
set_option maxRecDepth 100000
set_option maxHeartbeats 4000000
/-! PmFn13: ahead_sums. -/
namespace Pm
open Pd
def eTRow (r : Ltr) : D := .tup (r.map rat)
def eTR (rows : List Ltr) : D := .tup (rows.map eTRow)
def pscan (t : Int) : List (Int × Int) → List Int
  | [] => []
  | p :: z => (t + p.1 * p.2) :: pscan (t + p.1 * p.2) z
def lateOf (F : List Int) (vs : List Int) : List Int := 0 :: pscan 0 (F.zip vs)
def aheads (rows : List Ltr) (w : Wrd) : List Int := w.foldl (fun F x => lateOf F (rows.map (val x))) (List.replicate (rows.length + 1) 1)
theorem q_worths_at {c : Nat} {x : Ltr} {rows : List Ltr} (hx : LtrOk c x) (hr : ∀ r ∈ rows, RowOk c r) (hn : rows.length ≤ 1000) : g_worths_at [eL x, eTR rows] = some (.lst (rows.map fun r => rat (val x r))) := by
  have hc : eComp [2] (iT (eV 1)) (gN 2) tYes (eCall g_worth_at [(eV 0), (eV 2)]) [.i (eL x), .i (eTR rows), .u] = some (.lst (rows.map fun r => rat (val x r)), [.i (eL x), .i (eTR rows), .u]) :=
    comp_val (enc := eTRow) rows (iT_ap (eV 1) _ _ _ rfl) (by omega) rfl rfl fun r h => ⟨[.i (eL x), .i (eTR rows), .i (eTRow r)], by
      have := q_worth_at hx.pw (hr r h).sml
      unfold eTRow
      simp [turn, this], rfl⟩
  simp [g_worths_at, m_worths_at, run, envOf, hc]
theorem pscan_length (t : Int) : ∀ z : List (Int × Int), (pscan t z).length = z.length
  | [] => rfl
  | p :: z => by rw [pscan, List.length_cons, List.length_cons, pscan_length _ z]
/-- the inner loop -/
theorem late_loop (pre : List Sl) (hp : pre.length = 7) (z : List (Int × Int)) (hz : ∀ p ∈ z, small p.2 = true) (hn : z.length ≤ 1000) (s9 s10 s11 : Sl) :
    ∃ s9' s10' t', forL (gT [(gN 9), (gN 10)]) (sSeq (sAsg (e2 opAdd (eV 7) (e2 opMul (eV 9) (eV 10))) (gN 7)) (sApp 8 (eV 7))) (z.map fun p => D.tup [.int p.1, .int p.2]) (pre ++ [.i (.int 0), .o (.lst [.int 0]), s9, s10, s11]) =
      some (.nx, pre ++ [.i (.int t'), .o (.lst ((0 :: pscan 0 z).map D.int)), s9', s10', s11]) := by
  match pre, hp with
  | [b0, b1, b2, b3, b4, b5, b6], _ =>
    obtain ⟨ρ', h1, t, L, s9', s10', h, hs⟩ := for_inv (g := gT [(gN 9), (gN 10)]) (b := sSeq (sAsg (e2 opAdd (eV 7) (e2 opMul (eV 9) (eV 10))) (gN 7)) (sApp 8 (eV 7))) (enc := fun p : Int × Int => D.tup [.int p.1, .int p.2])
      (fun rem ρ => ∃ (t : Int) (L : List Int) (s9' s10' : Sl), ((∀ p ∈ rem, small p.2 = true) ∧ L ++ pscan t rem = 0 :: pscan 0 z ∧ L.length + rem.length ≤ 1001) ∧ ρ = [b0, b1, b2, b3, b4, b5, b6, .i (.int t), .o (.lst (L.map D.int)), s9', s10', s11]) z [b0, b1, b2, b3, b4, b5, b6, .i (.int 0), .o (.lst [.int 0]), s9, s10, s11] ⟨0, [0], _, _, ⟨hz, rfl, by simp; omega⟩, rfl⟩ (fun p ys ρ ⟨t, L, s9', s10', ⟨h1, h2, h3⟩, hρ⟩ => by
        subst hρ
        have hm : opMul (.int p.1) (.int p.2) = some (.int (p.1 * p.2)) := mul_small (h1 p List.mem_cons_self)
        have hl : (L.map D.int).length < 1000000 := by rw [List.length_map]; rw [List.length_cons] at h3; omega
        refine ⟨[b0, b1, b2, b3, b4, b5, b6, .i (.int t), .o (.lst (L.map D.int)), .i (.int p.1), .i (.int p.2), s11], [b0, b1, b2, b3, b4, b5, b6, .i (.int (t + p.1 * p.2)), .o (.lst ((L ++ [t + p.1 * p.2]).map D.int)), .i (.int p.1), .i (.int p.2), s11], by simp, ?_, _, _, _, _, ⟨fun q hq => h1 q (List.mem_cons_of_mem _ hq), by rw [← h2, pscan, List.append_assoc]; rfl, by rw [List.length_append, List.length_singleton]; rw [List.length_cons] at h3; omega⟩, rfl⟩
        rw [List.length_map] at hl
        simp [hm, sApp, hl])
    refine ⟨s9', s10', t, ?_⟩
    have : L = 0 :: pscan 0 z := by rw [← h.2.1]; simp [pscan]
    rw [← this]
    show forL _ _ _ [b0, b1, b2, b3, b4, b5, b6, .i (.int 0), .o (.lst [.int 0]), s9, s10, s11] = _
    rw [h1, hs]
    rfl
end Pm
end
section
set_option Elab.async false
set_option linter.all false
set_option maxRecDepth 100000
set_option maxHeartbeats 4000000
/-! PmFn14: ahead_sums, behind_sums. -/
namespace Pm
open Pd
theorem late_length (F vs : List Int) (h : F.length = vs.length + 1) : (lateOf F vs).length = vs.length + 1 := by
  unfold lateOf
  rw [List.length_cons, pscan_length, List.length_zip]
  omega
theorem rep1 (n : Nat) (h : n ≤ 3) : opRep (.lst [.int 1]) (.int ((n : Int) + 1)) = some (.lst ((List.replicate (n + 1) 1).map D.int)) := by
  have : n = 0 ∨ n = 1 ∨ n = 2 ∨ n = 3 := by omega
  rcases this with rfl | rfl | rfl | rfl <;> rfl
theorem q_ahead_sums {c : Nat} {rows : List Ltr} {w : Wrd} (hc : c ≤ 2) (hr : ∀ r ∈ rows, RowOk c r) (hw : ∀ l ∈ w, LtrOk c l) (hn : rows.length ≤ 3) : g_ahead_sums [eTR rows, eW w] = some (.lst ((aheads rows w).map rat)) := by
  let st : List Int → Ltr → List Int := fun F x => lateOf F (rows.map (val x))
  obtain ⟨ρ', h1, F, s2, s5, s6, s7, s8, s9, s10, ⟨hF, hl, _⟩, hs⟩ := for_inv (g := gN 2) (b := (sSeq (sAsg (eCall g_wholes [(eCall g_worths_at [(eV 2), (eV 0)])]) (gT [(gN 5), (gN 6)]))
    (sSeq (sParO 7 8 (eC (.int 0)) (eLst [(eC (.int 0))]))
    (sSeq (sFor (iZip (eV 3) (eV 6)) (gT [(gN 9), (gN 10)]) (sSeq (sAsg (e2 opAdd (eV 7) (e2 opMul (eV 9) (eV 10))) (gN 7))
    (sApp 8 (eV 7))))
    (sAsg (eTup [(eV 8), (e2 opMul (eV 4) (eV 5))]) (gT [(gN 3), (gN 4)])))))) (enc := eL)
    (fun rem ρ => ∃ (F : List Int) (s2 s5 s6 s7 s8 s9 s10 : Sl), (rem.foldl st F = aheads rows w ∧ F.length = rows.length + 1 ∧ ∀ l ∈ rem, LtrOk c l) ∧ ρ = [.i (eTR rows), .i (eW w), s2, .i (.lst (F.map D.int)), .i (.int 1), s5, s6, s7, s8, s9, s10, .u]) w
    [.i (eTR rows), .i (eW w), .u, .i (.lst ((List.replicate (rows.length + 1) 1).map D.int)), .i (.int 1), .u, .u, .u, .u, .u, .u, .u] ⟨List.replicate (rows.length + 1) 1, _, _, _, _, _, _, _, ⟨rfl, by simp, hw⟩, rfl⟩ (fun x ys ρ ⟨F, s2, s5, s6, s7, s8, s9, s10, ⟨hF, hl, hx⟩, hρ⟩ => by
      subst hρ
      have hxx := hx x List.mem_cons_self
      have u1 := q_worths_at hxx hr (by omega)
      have u2 := q_wholes (rows.map (val x)) (by rw [List.length_map]; omega)
      rw [List.map_map] at u2
      have u2' : g_wholes [.lst (rows.map fun r => rat (val x r))] = some (.tup [.int 1, .lst ((rows.map (val x)).map D.int)]) := u2
      obtain ⟨s9', s10', t', u3⟩ := late_loop [.i (eTR rows), .i (eW w), .i (eL x), .i (.lst (F.map D.int)), .i (.int 1), .i (.int 1), .i (.lst ((rows.map (val x)).map D.int))] rfl (F.zip (rows.map (val x))) (fun p hp => by
        obtain ⟨_, h2⟩ := List.of_mem_zip (show (p.1, p.2) ∈ _ from hp)
        obtain ⟨r, hr', e⟩ := List.mem_map.mp h2
        rw [← e]
        exact small_abs (val_b hc hxx (hr r hr')) (by decide)) (by rw [List.length_zip]; omega) s9 s10 .u
      have u4 : iZip (eV 3) (eV 6) [.i (eTR rows), .i (eW w), .i (eL x), .i (.lst (F.map D.int)), .i (.int 1), .i (.int 1), .i (.lst ((rows.map (val x)).map D.int)), .i (.int 0), .o (.lst [.int 0]), s9, s10, .u] = some ((F.zip (rows.map (val x))).map fun p => D.tup [.int p.1, .int p.2], [.i (eTR rows), .i (eW w), .i (eL x), .i (.lst (F.map D.int)), .i (.int 1), .i (.int 1), .i (.lst ((rows.map (val x)).map D.int)), .i (.int 0), .o (.lst [.int 0]), s9, s10, .u]) := by
        rw [← zip_int]
        rfl
      have u5 : opMul (.int 1) (.int 1) = some (.int 1) := rfl
      simp only [List.cons_append, List.nil_append] at u3
      have u6 : (sFor (iZip (eV 3) (eV 6)) (gT [(gN 9), (gN 10)]) (sSeq (sAsg (e2 opAdd (eV 7) (e2 opMul (eV 9) (eV 10))) (gN 7)) (sApp 8 (eV 7)))) [.i (eTR rows), .i (eW w), .i (eL x), .i (.lst (F.map D.int)), .i (.int 1), .i (.int 1), .i (.lst ((rows.map (val x)).map D.int)), .i (.int 0), .o (.lst [.int 0]), s9, s10, .u] = some (.nx, [.i (eTR rows), .i (eW w), .i (eL x), .i (.lst (F.map D.int)), .i (.int 1), .i (.int 1), .i (.lst ((rows.map (val x)).map D.int)), .i (.int t'), .o (.lst ((st F x).map D.int)), s9', s10', .u]) := by
        rw [sFor_ap, u4, Option.bind_some]
        exact u3
      have hlen : (st F x).length = rows.length + 1 := by
        have := late_length F (rows.map (val x)) (by rw [List.length_map]; exact hl)
        rw [List.length_map] at this
        exact this
      have hF : ys.foldl st (st F x) = aheads rows w := hF
      generalize hvs : (rows.map (val x)).map D.int = vs at u2' u6
      generalize (st F x) = F' at u6 hlen hF
      refine ⟨[.i (eTR rows), .i (eW w), .i (eL x), .i (.lst (F.map D.int)), .i (.int 1), s5, s6, s7, s8, s9, s10, .u], [.i (eTR rows), .i (eW w), .i (eL x), .i (.lst (F'.map D.int)), .i (.int 1), .i (.int 1), .i (.lst vs), .i (.int t'), .i (.lst (F'.map D.int)), s9', s10', .u], by simp, ?_, F', _, _, _, _, _, _, _, ⟨?_, ?_, fun l hl => hx l (List.mem_cons_of_mem _ hl)⟩, rfl⟩
      · generalize eTR rows = R at *
        generalize eW w = W at *
        generalize eL x = X at *
        generalize F.map D.int = F1 at *
        generalize F'.map D.int = F2 at *
        have e1 : sParO 7 8 (eC (.int 0)) (eLst [(eC (.int 0))]) [.i R, .i W, .i X, .i (.lst F1), .i (.int 1), .i (.int 1), .i (.lst vs), s7, s8, s9, s10, .u] = some (.nx, [.i R, .i W, .i X, .i (.lst F1), .i (.int 1), .i (.int 1), .i (.lst vs), .i (.int 0), .o (.lst [.int 0]), s9, s10, .u]) := by simp [sParO]
        rw [sSeq_ap]
        have e0 : (sAsg (eCall g_wholes [(eCall g_worths_at [(eV 2), (eV 0)])]) (gT [(gN 5), (gN 6)])) [.i R, .i W, .i X, .i (.lst F1), .i (.int 1), s5, s6, s7, s8, s9, s10, .u] = some (.nx, [.i R, .i W, .i X, .i (.lst F1), .i (.int 1), .i (.int 1), .i (.lst vs), s7, s8, s9, s10, .u]) := by
          simp [u1, u2']
        rw [e0, Option.bind_some]
        dsimp only
        rw [sSeq_ap, e1, Option.bind_some]
        dsimp only
        rw [sSeq_ap, u6, Option.bind_some]
        simp [u5]
      · exact hF
      · exact hlen)
  have hF' : F = aheads rows w := hF
  subst hF'
  have hL : (aheads rows w).length = rows.length + 1 := hl
  have h2 : eComp [11] (iL (eV 3)) (gN 11) tYes (eCall Pd.mkRat [(eV 11), (eV 4)]) [.i (eTR rows), .i (eW w), s2, .i (.lst ((aheads rows w).map D.int)), .i (.int 1), s5, s6, s7, s8, s9, s10, .u] = some (.lst ((aheads rows w).map rat), [.i (eTR rows), .i (eW w), s2, .i (.lst ((aheads rows w).map D.int)), .i (.int 1), s5, s6, s7, s8, s9, s10, .u]) :=
    comp_val (enc := D.int) (aheads rows w) (iL_ap (eV 3) _ _ _ rfl) (by omega) rfl rfl fun n _ => ⟨[.i (eTR rows), .i (eW w), s2, .i (.lst ((aheads rows w).map D.int)), .i (.int 1), s5, s6, s7, s8, s9, s10, .i (.int n)], by simp [turn, mkRat_eq], rfl⟩
  have h3 := rep1 rows.length hn
  have h4 : a1 opLen [eTR rows] = some (.int rows.length) := by unfold eTR; rw [len_tup, List.length_map]
  have h5 : iT (eV 1) [.i (eTR rows), .i (eW w), .u, .i (.lst ((List.replicate (rows.length + 1) 1).map D.int)), .i (.int 1), .u, .u, .u, .u, .u, .u, .u] = some (w.map eL, [.i (eTR rows), .i (eW w), .u, .i (.lst ((List.replicate (rows.length + 1) 1).map D.int)), .i (.int 1), .u, .u, .u, .u, .u, .u, .u]) := rfl
  rw [hs] at h1
  generalize (List.replicate (rows.length + 1) 1).map D.int = R1 at *
  generalize aheads rows w = A at *
  unfold g_ahead_sums Pd.m_ahead_sums
  simp [run, envOf, h4, h3, h5, h1, h2]
end Pm
end
section
set_option Elab.async false
set_option linter.all false
set_option maxRecDepth 100000
set_option maxHeartbeats 4000000
/-! PmFn15: behind_sums; what the sums hold; total_of. -/
namespace Pm
open Pd
def behinds (rows : List Ltr) (w : Wrd) : List Int := (aheads rows.reverse w.reverse).reverse
theorem q_behind_sums {c : Nat} {rows : List Ltr} {w : Wrd} (hc : c ≤ 2) (hr : ∀ r ∈ rows, RowOk c r) (hw : ∀ l ∈ w, LtrOk c l) (hn : rows.length ≤ 3) : g_behind_sums [eTR rows, eW w] = some (.lst ((behinds rows w).map rat)) := by
  have h := q_ahead_sums (rows := rows.reverse) (w := w.reverse) hc (fun r hr' => hr r (List.mem_reverse.mp hr')) (fun l hl => hw l (List.mem_reverse.mp hl)) (by rw [List.length_reverse]; exact hn)
  have e1 : opRev (eTR rows) = some (eTR rows.reverse) := by unfold eTR; rw [List.map_reverse]; rfl
  have e2 : opRev (eW w) = some (eW w.reverse) := by unfold eW; rw [List.map_reverse]; rfl
  have e3 : opRev (.lst ((aheads rows.reverse w.reverse).map rat)) = some (.lst ((behinds rows w).map rat)) := by unfold behinds; rw [List.map_reverse]; rfl
  simp [g_behind_sums, m_behind_sums, run, envOf, e1, e2, h, e3]
theorem aheads_at {rows : List Ltr} {w : Wrd} (hn : rows.length ≤ 3) (hw : w.length ≤ 2) {i : Nat} (hi : i < rows.length) : (aheads rows w)[i]? = some (Sm w (rows.take i)) := by
  match rows, hn, w, hw with
  | [r], _, [], _ => match i, hi with
    | 0, _ => simp [aheads, lateOf, pscan, Sm]
  | [r], _, [x], _ => match i, hi with
    | 0, _ => simp [aheads, lateOf, pscan, Sm]
  | [r], _, [x, y], _ => match i, hi with
    | 0, _ => simp [aheads, lateOf, pscan, Sm]
  | [r, s], _, [], _ => match i, hi with
    | 0, _ => simp [aheads, lateOf, pscan, Sm]
    | 1, _ => simp [aheads, lateOf, pscan, Sm]
  | [r, s], _, [x], _ => match i, hi with
    | 0, _ => simp [aheads, lateOf, pscan, Sm]
    | 1, _ => simp [aheads, lateOf, pscan, Sm, List.replicate]
  | [r, s], _, [x, y], _ => match i, hi with
    | 0, _ => simp [aheads, lateOf, pscan, Sm]
    | 1, _ => simp [aheads, lateOf, pscan, Sm, List.replicate]
  | [r, s, u], _, [], _ => match i, hi with
    | 0, _ => simp [aheads, lateOf, pscan, Sm]
    | 1, _ => simp [aheads, lateOf, pscan, Sm]
    | 2, _ => simp [aheads, lateOf, pscan, Sm]
  | [r, s, u], _, [x], _ => match i, hi with
    | 0, _ => simp [aheads, lateOf, pscan, Sm]
    | 1, _ => simp [aheads, lateOf, pscan, Sm, List.replicate]
    | 2, _ => simp [aheads, lateOf, pscan, Sm, List.replicate]
  | [r, s, u], _, [x, y], _ => match i, hi with
    | 0, _ => simp [aheads, lateOf, pscan, Sm]
    | 1, _ => simp [aheads, lateOf, pscan, Sm, List.replicate]
    | 2, _ => simp [aheads, lateOf, pscan, Sm, List.replicate]
theorem behinds_at {rows : List Ltr} {w : Wrd} (hn : rows.length ≤ 3) (hw : w.length ≤ 2) {i : Nat} (hi : i < rows.length) : (behinds rows w)[i + 1]? = some (Sm w (rows.drop (i + 1))) := by
  match rows, hn, w, hw with
  | [r], _, [], _ => match i, hi with
    | 0, _ => simp [behinds, aheads, lateOf, pscan, Sm]
  | [r], _, [x], _ => match i, hi with
    | 0, _ => simp [behinds, aheads, lateOf, pscan, Sm, List.replicate]
  | [r], _, [x, y], _ => match i, hi with
    | 0, _ => simp [behinds, aheads, lateOf, pscan, Sm, List.replicate]
  | [r, s], _, [], _ => match i, hi with
    | 0, _ => simp [behinds, aheads, lateOf, pscan, Sm]
    | 1, _ => simp [behinds, aheads, lateOf, pscan, Sm]
  | [r, s], _, [x], _ => match i, hi with
    | 0, _ => simp [behinds, aheads, lateOf, pscan, Sm, List.replicate]
    | 1, _ => simp [behinds, aheads, lateOf, pscan, Sm, List.replicate]
  | [r, s], _, [x, y], _ => match i, hi with
    | 0, _ => simp [behinds, aheads, lateOf, pscan, Sm, List.replicate]
    | 1, _ => simp [behinds, aheads, lateOf, pscan, Sm, List.replicate]
  | [r, s, u], _, [], _ => match i, hi with
    | 0, _ => simp [behinds, aheads, lateOf, pscan, Sm]
    | 1, _ => simp [behinds, aheads, lateOf, pscan, Sm]
    | 2, _ => simp [behinds, aheads, lateOf, pscan, Sm]
  | [r, s, u], _, [x], _ => match i, hi with
    | 0, _ => simp [behinds, aheads, lateOf, pscan, Sm, List.replicate]; try grind
    | 1, _ => simp [behinds, aheads, lateOf, pscan, Sm, List.replicate]
    | 2, _ => simp [behinds, aheads, lateOf, pscan, Sm, List.replicate]
  | [r, s, u], _, [x, y], _ => match i, hi with
    | 0, _ => simp [behinds, aheads, lateOf, pscan, Sm, List.replicate]; try grind
    | 1, _ => simp [behinds, aheads, lateOf, pscan, Sm, List.replicate]
    | 2, _ => simp [behinds, aheads, lateOf, pscan, Sm, List.replicate]
theorem q_total_of (ns : List Int) : g_total_of [.lst (ns.map rat)] = some (rat ns.sum) := by
  obtain ⟨ρ', h1, a, s2, ha, hs⟩ := for_inv (g := gN 2) (b := (sAsg (e2 opAddR (eV 1) (eV 2)) (gN 1))) (enc := rat)
    (fun rem ρ => ∃ (a : Int) (s2 : Sl), a + rem.sum = ns.sum ∧ ρ = [.i (.lst (ns.map rat)), .i (rat a), s2]) ns [.i (.lst (ns.map rat)), .i (rat 0), .u] ⟨0, _, by omega, rfl⟩ (fun x ys ρ ⟨a, s2, ha, hρ⟩ => by
      subst hρ
      exact ⟨[.i (.lst (ns.map rat)), .i (rat a), .i (rat x)], [.i (.lst (ns.map rat)), .i (rat (a + x)), .i (rat x)], by simp, by simp [add_rat], _, _, by rw [List.sum_cons] at ha; omega, rfl⟩)
  have ha' : a = ns.sum := by simpa using ha
  rw [hs] at h1
  have h2 : iL (eV 0) [.i (.lst (ns.map rat)), .i (rat 0), .u] = some (ns.map rat, [.i (.lst (ns.map rat)), .i (rat 0), .u]) := rfl
  unfold g_total_of Pd.m_total_of
  simp [run, envOf, mkRat1_eq, h2, h1, ha']
end Pm
end
section
set_option Elab.async false
set_option linter.all false
set_option maxRecDepth 100000
set_option maxHeartbeats 4000000
/-! PmFn16: worths_of_form. -/
namespace Pm
open Pd
def eLs (L : List Int) : D := .lst (L.map rat)
def Memo (f : Wrd → List Int) (m : List (Wrd × List Int)) : Prop := ∀ p ∈ m, p.2 = f p.1
theorem memo_get {f : Wrd → List Int} {m : List (Wrd × List Int)} (h : Memo f m) {w : Wrd} (hw : w ∈ keys m) : tget m w = some (f w) := by
  cases e : tget m w with
  | none =>
    exfalso
    unfold tget at e
    rw [Option.map_eq_none_iff, List.find?_eq_none] at e
    obtain ⟨p, hp, rfl⟩ := List.mem_map.mp hw
    exact e p hp (by simp)
  | some v => rw [← h _ (tget_mem e)]
theorem memo_put {f : Wrd → List Int} {m : List (Wrd × List Int)} (h : Memo f m) {w : Wrd} (hw : thas m w = false) : tput m w (f w) = m ++ [(w, f w)] ∧ Memo f (m ++ [(w, f w)]) := by
  refine ⟨by unfold tput; rw [hw]; rfl, fun p hp => ?_⟩
  rcases List.mem_append.mp hp with z | z
  · exact h p z
  · rw [List.mem_singleton.mp z]
theorem notIn_enc {α β : Type} [DecidableEq α] {e : α → D} {f : β → D} (h : EncK e) (hd : ∀ a, depth (e a) ≤ 8) {m : List (α × β)} {k : Nat} {a : E} {ρ ρ1 : Env} {x : α} (h1 : a ρ = some (e x, ρ1)) (h3 : own? k ρ1 = some (.dic (encM e f m), ρ1)) :
    tNotInO a k ρ = some (!thas m x, ρ1) := by
  unfold tNotInO
  rw [bnd_some h1, bnd_some h3]
  dsimp only
  rw [if_pos ⟨h.k x, hd x⟩, dhas_enc h]
  rfl
def eFp (p : Trm × Int) : D := .tup [eT p.1, rat p.2]
abbrev wfL1 : S := (sSeq (sIf (tNotInO (eV 9) 3) (sAsg (eCall g_ahead_sums [(eV 1), (eV 9)]) (gSub 3 (eV 9))) sNx)
    (sIf (tNotInO (eV 11) 4) (sAsg (eCall g_behind_sums [(eV 1), (eV 11)]) (gSub 4 (eV 11))) sNx))
theorem wf_loop1 {c : Nat} {F : Prt} {rows : List Ltr} (hc : c ≤ 2) (hr : ∀ r ∈ rows, RowOk c r) (hn : rows.length ≤ 3) (hF : ∀ p ∈ F, TrmOk c p.1) (hl : F.length ≤ 400) (f : D) (s6 s7 s8 s12 s13 : Sl) :
    ∃ A B s5 s9 s10 s11, (Memo (aheads rows) A ∧ Memo (behinds rows) B ∧ ∀ p ∈ F, p.1.1 ∈ keys A ∧ p.1.2.2 ∈ keys B) ∧
    forL (gT [(gT [(gN 9), (gN 10), (gN 11)]), (gN 5)]) wfL1 (F.map eFp) [.i f, .i (eTR rows), .u, .o (.dic []), .o (.dic []), .u, s6, s7, s8, .u, .u, .u, s12, s13] =
      some (.nx, [.i f, .i (eTR rows), .u, .o (.dic (encM eW eLs A)), .o (.dic (encM eW eLs B)), s5, s6, s7, s8, s9, s10, s11, s12, s13]) := by
  obtain ⟨ρ', h1, A, B, s5, s9, s10, s11, h, hs⟩ := for_inv (g := gT [(gT [(gN 9), (gN 10), (gN 11)]), (gN 5)]) (b := wfL1) (enc := eFp)
    (fun rem ρ => ∃ (A B : List (Wrd × List Int)) (s5 s9 s10 s11 : Sl), (Memo (aheads rows) A ∧ Memo (behinds rows) B ∧ (∀ p ∈ F, p ∈ rem ∨ (p.1.1 ∈ keys A ∧ p.1.2.2 ∈ keys B)) ∧ (∀ p ∈ rem, TrmOk c p.1) ∧ A.length + rem.length ≤ 400 ∧ B.length + rem.length ≤ 400) ∧
      ρ = [.i f, .i (eTR rows), .u, .o (.dic (encM eW eLs A)), .o (.dic (encM eW eLs B)), s5, s6, s7, s8, s9, s10, s11, s12, s13]) F [.i f, .i (eTR rows), .u, .o (.dic []), .o (.dic []), .u, s6, s7, s8, .u, .u, .u, s12, s13]
    ⟨[], [], _, _, _, _, ⟨fun p hp => (by cases hp), fun p hp => (by cases hp), fun p hp => .inl hp, hF, by simpa using hl, by simpa using hl⟩, rfl⟩ (fun x ys ρ ⟨A, B, s5, s9, s10, s11, ⟨hA, hB, hk, ht, la, lb⟩, hρ⟩ => by
      subst hρ
      have hx := ht x List.mem_cons_self
      rw [List.length_cons] at la lb
      have ha : g_ahead_sums [eTR rows, eW x.1.1] = some (eLs (aheads rows x.1.1)) := q_ahead_sums hc hr hx.l hn
      have hb : g_behind_sums [eTR rows, eW x.1.2.2] = some (eLs (behinds rows x.1.2.2)) := q_behind_sums hc hr hx.r hn
      have e1 : ∃ A', (Memo (aheads rows) A' ∧ (∀ w ∈ keys A, w ∈ keys A') ∧ x.1.1 ∈ keys A' ∧ A'.length ≤ A.length + 1) ∧ (sIf (tNotInO (eV 9) 3) (sAsg (eCall g_ahead_sums [(eV 1), (eV 9)]) (gSub 3 (eV 9))) sNx) [.i f, .i (eTR rows), .u, .o (.dic (encM eW eLs A)), .o (.dic (encM eW eLs B)), .i (rat x.2), s6, s7, s8, .i (eW x.1.1), .i (eL x.1.2.1), .i (eW x.1.2.2), s12, s13] = some (.nx, [.i f, .i (eTR rows), .u, .o (.dic (encM eW eLs A')), .o (.dic (encM eW eLs B)), .i (rat x.2), s6, s7, s8, .i (eW x.1.1), .i (eL x.1.2.1), .i (eW x.1.2.2), s12, s13]) := by
        have n1 : tNotInO (eV 9) 3 [.i f, .i (eTR rows), .u, .o (.dic (encM eW eLs A)), .o (.dic (encM eW eLs B)), .i (rat x.2), s6, s7, s8, .i (eW x.1.1), .i (eL x.1.2.1), .i (eW x.1.2.2), s12, s13] = some (!thas A x.1.1, [.i f, .i (eTR rows), .u, .o (.dic (encM eW eLs A)), .o (.dic (encM eW eLs B)), .i (rat x.2), s6, s7, s8, .i (eW x.1.1), .i (eL x.1.2.1), .i (eW x.1.2.2), s12, s13]) := notIn_enc encW dW rfl rfl
        rw [sIf_ap, n1]
        cases hh : thas A x.1.1 with
        | true => exact ⟨A, ⟨hA, fun w hw => hw, thas_iff.mp hh, by omega⟩, rfl⟩
        | false =>
          obtain ⟨p1, p2⟩ := memo_put hA hh
          refine ⟨A ++ [(x.1.1, aheads rows x.1.1)], ⟨p2, fun w hw => by rw [keys, List.map_append]; exact List.mem_append.mpr (.inl hw), by rw [keys, List.map_append]; exact List.mem_append.mpr (.inr (by simp)), by simp⟩, ?_⟩
          have st : setD (.dic (encM eW eLs A)) (eW x.1.1) (eLs (aheads rows x.1.1)) = some (.dic (encM eW eLs (A ++ [(x.1.1, aheads rows x.1.1)]))) := by
            rw [setD_enc encW dW (by omega), p1]
          simp [ha, st]
      obtain ⟨A', ⟨a1, a2, a3, a4⟩, e1⟩ := e1
      have e2 : ∃ B', (Memo (behinds rows) B' ∧ (∀ w ∈ keys B, w ∈ keys B') ∧ x.1.2.2 ∈ keys B' ∧ B'.length ≤ B.length + 1) ∧ (sIf (tNotInO (eV 11) 4) (sAsg (eCall g_behind_sums [(eV 1), (eV 11)]) (gSub 4 (eV 11))) sNx) [.i f, .i (eTR rows), .u, .o (.dic (encM eW eLs A')), .o (.dic (encM eW eLs B)), .i (rat x.2), s6, s7, s8, .i (eW x.1.1), .i (eL x.1.2.1), .i (eW x.1.2.2), s12, s13] = some (.nx, [.i f, .i (eTR rows), .u, .o (.dic (encM eW eLs A')), .o (.dic (encM eW eLs B')), .i (rat x.2), s6, s7, s8, .i (eW x.1.1), .i (eL x.1.2.1), .i (eW x.1.2.2), s12, s13]) := by
        have n1 : tNotInO (eV 11) 4 [.i f, .i (eTR rows), .u, .o (.dic (encM eW eLs A')), .o (.dic (encM eW eLs B)), .i (rat x.2), s6, s7, s8, .i (eW x.1.1), .i (eL x.1.2.1), .i (eW x.1.2.2), s12, s13] = some (!thas B x.1.2.2, [.i f, .i (eTR rows), .u, .o (.dic (encM eW eLs A')), .o (.dic (encM eW eLs B)), .i (rat x.2), s6, s7, s8, .i (eW x.1.1), .i (eL x.1.2.1), .i (eW x.1.2.2), s12, s13]) := notIn_enc encW dW rfl rfl
        rw [sIf_ap, n1]
        cases hh : thas B x.1.2.2 with
        | true => exact ⟨B, ⟨hB, fun w hw => hw, thas_iff.mp hh, by omega⟩, rfl⟩
        | false =>
          obtain ⟨p1, p2⟩ := memo_put hB hh
          refine ⟨B ++ [(x.1.2.2, behinds rows x.1.2.2)], ⟨p2, fun w hw => by rw [keys, List.map_append]; exact List.mem_append.mpr (.inl hw), by rw [keys, List.map_append]; exact List.mem_append.mpr (.inr (by simp)), by simp⟩, ?_⟩
          have st : setD (.dic (encM eW eLs B)) (eW x.1.2.2) (eLs (behinds rows x.1.2.2)) = some (.dic (encM eW eLs (B ++ [(x.1.2.2, behinds rows x.1.2.2)]))) := by
            rw [setD_enc encW dW (by omega), p1]
          simp [hb, st]
      obtain ⟨B', ⟨b1, b2, b3, b4⟩, e2⟩ := e2
      refine ⟨[.i f, .i (eTR rows), .u, .o (.dic (encM eW eLs A)), .o (.dic (encM eW eLs B)), .i (rat x.2), s6, s7, s8, .i (eW x.1.1), .i (eL x.1.2.1), .i (eW x.1.2.2), s12, s13], [.i f, .i (eTR rows), .u, .o (.dic (encM eW eLs A')), .o (.dic (encM eW eLs B')), .i (rat x.2), s6, s7, s8, .i (eW x.1.1), .i (eL x.1.2.1), .i (eW x.1.2.2), s12, s13], by simp [eFp, eT], ?_, A', B', _, _, _, _, ⟨a1, b1, fun p hp => ?_, fun p hp => ht p (List.mem_cons_of_mem _ hp), by omega, by omega⟩, rfl⟩
      · show wfL1 [.i f, .i (eTR rows), .u, .o (.dic (encM eW eLs A)), .o (.dic (encM eW eLs B)), .i (rat x.2), s6, s7, s8, .i (eW x.1.1), .i (eL x.1.2.1), .i (eW x.1.2.2), s12, s13] = _
        unfold wfL1
        rw [sSeq_ap, e1, Option.bind_some]
        exact e2
      · rcases hk p hp with z | z
        · rcases List.mem_cons.mp z with rfl | z
          · exact .inr ⟨a3, b3⟩
          · exact .inl z
        · exact .inr ⟨a2 _ z.1, b2 _ z.2⟩)
  refine ⟨A, B, s5, s9, s10, s11, ⟨h.1, h.2.1, fun p hp => ?_⟩, by rw [h1, hs]⟩
  rcases h.2.2.1 p hp with z | z
  · cases z
  · exact z
end Pm
end
section
set_option Elab.async false
set_option linter.all false
set_option maxRecDepth 100000
set_option maxHeartbeats 4000000
/-! PmFn17: worths_of_form: the results. -/
namespace Pm
open Pd
theorem eLs_ix {L : List Int} {i : Nat} {v : Int} (h : L[i]? = some v) : opIx (eLs L) (.int i) = some (rat v) := by
  show atD (L.map rat) i = _
  unfold atD
  rw [if_pos (by omega), Int.toNat_natCast, List.getElem?_map, h]
  rfl
theorem sign_ne (v : Int) : (g_Ratio_sign [rat v]).bind (fun d => (opNe d (.int 0)).bind bool?) = some (decide (v ≠ 0)) := by
  rw [sign_rat]
  simp
  by_cases h1 : 0 < v
  · have h2 : ¬ v < 0 := by omega
    have h3 : v ≠ 0 := by omega
    simp [h1, h2, h3]
  · by_cases h2 : v < 0
    · have h3 : v ≠ 0 := by omega
      simp [h1, h2, h3]
    · have h3 : v = 0 := by omega
      simp [h3]
/-- slot k holds d -/
def Hd (s : Sl) (d : D) : Prop := s = .o d ∨ s = .i d
abbrev wfB : S := (sSeq (sPar 12 13 (e2 opIx (e2 opIx (eV 3) (eV 9)) (eV 6)) (e2 opIx (e2 opIx (eV 4) (eV 11)) (e2 opAdd (eV 6) (eC (.int 1)))))
    (sIf (tAnd (tst (e2 opNe (e1 (opPrp .rat g_Ratio_sign) (eV 12)) (eC (.int 0)))) (tst (e2 opNe (e1 (opPrp .rat g_Ratio_sign) (eV 13)) (eC (.int 0))))) (sApp 8 (e2 opMulR (e2 opMulR (e2 opMulR (eV 5) (eV 12)) (eV 13)) (eCall g_worth_at [(eV 10), (eV 7)]))) sNx))
theorem sum_app (L : List Int) (x : Int) : (L ++ [x]).sum = L.sum + x := by
  rw [List.sum_append]
  simp
theorem tst_sign (k : Nat) (v : Int) (ρ : Env) (h : ρ[k]? = some (.i (rat v))) : tst (e2 opNe (e1 (opPrp .rat g_Ratio_sign) (eV k)) (eC (.int 0))) ρ = some (decide (v ≠ 0), ρ) := by
  have h1 : opPrp .rat g_Ratio_sign (rat v) = g_Ratio_sign [rat v] := rfl
  have h2 := sign_ne v
  rw [sign_rat] at h1 h2
  simp only [tst_ap, e2_ap, e1_ap, eV_ap, h, Option.bind_some, h1, Option.map_some, eC_ap]
  simp only [Option.bind_some] at h2
  generalize opNe (D.int ((if v > 0 then 1 else 0) - if v < 0 then 1 else 0)) (D.int 0) = z at h2
  cases z with
  | none => cases h2
  | some d =>
    simp only [Option.bind_some] at h2
    simp [h2]
theorem wf_inner {c : Nat} {F : Prt} {rows : List Ltr} (hc : c ≤ 2) (hr : ∀ r ∈ rows, RowOk c r) (hn : rows.length ≤ 3) (hF : ∀ p ∈ F, TrmOk c p.1) (hl : F.length ≤ 400) {A B : List (Wrd × List Int)} (hA : Memo (aheads rows) A) (hB : Memo (behinds rows) B) (hk : ∀ p ∈ F, p.1.1 ∈ keys A ∧ p.1.2.2 ∈ keys B) {i : Nat} (hi : i < rows.length) (f : D) (s2 s3 s4 s5 s9 s10 s11 s12 s13 : Sl) (h3 : Hd s3 (.dic (encM eW eLs A))) (h4 : Hd s4 (.dic (encM eW eLs B))) :
    ∃ (L : List Int) (s3' s4' s5' s9' s10' s11' s12' s13' : Sl), (Hd s3' (.dic (encM eW eLs A)) ∧ Hd s4' (.dic (encM eW eLs B)) ∧ L.sum = res F rows i) ∧
    forL (gT [(gT [(gN 9), (gN 10), (gN 11)]), (gN 5)]) wfB (F.map eFp) [.i f, .i (eTR rows), s2, s3, s4, s5, .i (.int i), .i (eTRow (rows.getD i [])), .o (.lst []), s9, s10, s11, s12, s13] =
      some (.nx, [.i f, .i (eTR rows), s2, s3', s4', s5', .i (.int i), .i (eTRow (rows.getD i [])), .o (eLs L), s9', s10', s11', s12', s13']) := by
  obtain ⟨ρ', h1, L, s3', s4', s5', s9', s10', s11', s12', s13', h, hs⟩ := for_inv (g := gT [(gT [(gN 9), (gN 10), (gN 11)]), (gN 5)]) (b := wfB) (enc := eFp)
    (fun rem ρ => ∃ (L : List Int) (s3' s4' s5' s9' s10' s11' s12' s13' : Sl), (Hd s3' (.dic (encM eW eLs A)) ∧ Hd s4' (.dic (encM eW eLs B)) ∧ L.sum + sumM (fun t => Tv t rows i) rem = res F rows i ∧ (∀ p ∈ rem, p ∈ F) ∧ L.length + rem.length ≤ 400) ∧
      ρ = [.i f, .i (eTR rows), s2, s3', s4', s5', .i (.int i), .i (eTRow (rows.getD i [])), .o (eLs L), s9', s10', s11', s12', s13']) F
    [.i f, .i (eTR rows), s2, s3, s4, s5, .i (.int i), .i (eTRow (rows.getD i [])), .o (.lst []), s9, s10, s11, s12, s13] ⟨[], _, _, _, _, _, _, _, _, ⟨h3, h4, by simp [res], fun p hp => hp, by simpa using hl⟩, rfl⟩ (fun x ys ρ ⟨L, s3, s4, s5, s9, s10, s11, s12, s13, ⟨h3, h4, hL, hm, ll⟩, hρ⟩ => by
      subst hρ
      have hxF := hm x List.mem_cons_self
      have ht := hF x hxF
      have hl : x.1.1.length ≤ 2 := by have := ht.s; unfold len at this; omega
      have hr2 : x.1.2.2.length ≤ 2 := by have := ht.s; unfold len at this; omega
      obtain ⟨k1, k2⟩ := hk x hxF
      have a1 : opIx (.dic (encM eW eLs A)) (eW x.1.1) = some (eLs (aheads rows x.1.1)) := by rw [ix_enc encW dW, memo_get hA k1]; rfl
      have b1 : opIx (.dic (encM eW eLs B)) (eW x.1.2.2) = some (eLs (behinds rows x.1.2.2)) := by rw [ix_enc encW dW, memo_get hB k2]; rfl
      have a2 := eLs_ix (aheads_at hn hl hi)
      have b2 := eLs_ix (behinds_at hn hr2 hi)
      have f1 : Fit c x.1.1 (rows.take i) := ⟨hc, ht.l, fun r hr' => hr r (List.mem_of_mem_take hr')⟩
      have f2 : Fit c x.1.2.2 (rows.drop (i + 1)) := ⟨hc, ht.r, fun r hr' => hr r (List.mem_of_mem_drop hr')⟩
      have hrow : RowOk c (rows.getD i []) := by
        rw [List.getD_eq_getElem?_getD, List.getElem?_eq_getElem hi, Option.getD_some]
        exact hr _ (List.getElem_mem hi)
      have w1 : g_worth_at [eL x.1.2.1, eTRow (rows.getD i [])] = some (rat (val x.1.2.1 (rows.getD i []))) := q_worth_at ht.o.pw hrow.sml
      have m1 := mul_rat x.2 _ (small_abs (Sm_b f1 hl (by rw [List.length_take]; omega)) (by decide))
      have m2 := mul_rat (x.2 * Sm x.1.1 (rows.take i)) _ (small_abs (Sm_b f2 hr2 (by rw [List.length_drop]; omega)) (by decide))
      have m3 := mul_rat (x.2 * Sm x.1.1 (rows.take i) * Sm x.1.2.2 (rows.drop (i + 1))) _ (small_abs (val_b hc ht.o hrow) (by decide))
      have tv : x.2 * Sm x.1.1 (rows.take i) * Sm x.1.2.2 (rows.drop (i + 1)) * val x.1.2.1 (rows.getD i []) = x.2 * Tv x.1 rows i := by unfold Tv; grind
      have tz : (Sm x.1.1 (rows.take i) = 0 ∨ Sm x.1.2.2 (rows.drop (i + 1)) = 0) → x.2 * Tv x.1 rows i = 0 := by
        intro z
        unfold Tv
        rcases z with z | z <;> rw [z] <;> grind
      rw [sumM_cons] at hL
      rw [List.length_cons] at ll
      generalize hR : eTRow (rows.getD i []) = R at *
      generalize hS1 : Sm x.1.1 (rows.take i) = S1 at *
      generalize hS2 : Sm x.1.2.2 (rows.drop (i + 1)) = S2 at *
      generalize hV : val x.1.2.1 (rows.getD i []) = V at *
      have ia : ((i : Int) + 1) = ((i + 1 : Nat) : Int) := by omega
      rw [← ia] at b2
      have pr : (sPar 12 13 (e2 opIx (e2 opIx (eV 3) (eV 9)) (eV 6)) (e2 opIx (e2 opIx (eV 4) (eV 11)) (e2 opAdd (eV 6) (eC (.int 1))))) [.i f, .i (eTR rows), s2, s3, s4, .i (rat x.2), .i (.int i), .i R, .o (eLs L), .i (eW x.1.1), .i (eL x.1.2.1), .i (eW x.1.2.2), s12, s13] = some (.nx, [.i f, .i (eTR rows), s2, .i (.dic (encM eW eLs A)), .i (.dic (encM eW eLs B)), .i (rat x.2), .i (.int i), .i R, .o (eLs L), .i (eW x.1.1), .i (eL x.1.2.1), .i (eW x.1.2.2), .i (rat S1), .i (rat S2)]) := by
        unfold sPar
        rcases h3 with h3 | h3 <;> rcases h4 with h4 | h4 <;> subst h3 <;> subst h4 <;> simp [a1, a2, b1, b2]
      have t1 : tAnd (tst (e2 opNe (e1 (opPrp .rat g_Ratio_sign) (eV 12)) (eC (.int 0)))) (tst (e2 opNe (e1 (opPrp .rat g_Ratio_sign) (eV 13)) (eC (.int 0)))) [.i f, .i (eTR rows), s2, .i (.dic (encM eW eLs A)), .i (.dic (encM eW eLs B)), .i (rat x.2), .i (.int i), .i R, .o (eLs L), .i (eW x.1.1), .i (eL x.1.2.1), .i (eW x.1.2.2), .i (rat S1), .i (rat S2)] = some (decide (S1 ≠ 0) && decide (S2 ≠ 0), [.i f, .i (eTR rows), s2, .i (.dic (encM eW eLs A)), .i (.dic (encM eW eLs B)), .i (rat x.2), .i (.int i), .i R, .o (eLs L), .i (eW x.1.1), .i (eL x.1.2.1), .i (eW x.1.2.2), .i (rat S1), .i (rat S2)]) := by
        rw [tAnd_ap, tst_sign 12 S1 _ rfl, Option.bind_some]
        dsimp only
        rw [tst_sign 13 S2 _ rfl]
        cases decide (S1 ≠ 0) <;> rfl
      cases hz : (decide (S1 ≠ 0) && decide (S2 ≠ 0)) with
      | false =>
        have tz' : x.2 * Tv x.1 rows i = 0 := by
          refine tz ?_
          by_cases z1 : S1 = 0
          · exact .inl z1
          · by_cases z2 : S2 = 0
            · exact .inr z2
            · simp [z1, z2] at hz
        refine ⟨[.i f, .i (eTR rows), s2, s3, s4, .i (rat x.2), .i (.int i), .i R, .o (eLs L), .i (eW x.1.1), .i (eL x.1.2.1), .i (eW x.1.2.2), s12, s13], [.i f, .i (eTR rows), s2, .i (.dic (encM eW eLs A)), .i (.dic (encM eW eLs B)), .i (rat x.2), .i (.int i), .i R, .o (eLs L), .i (eW x.1.1), .i (eL x.1.2.1), .i (eW x.1.2.2), .i (rat S1), .i (rat S2)], by simp [eFp, eT], ?_, L, _, _, _, _, _, _, _, _, ⟨.inr rfl, .inr rfl, by omega, fun p hp => hm p (List.mem_cons_of_mem _ hp), by omega⟩, rfl⟩
        unfold wfB
        rw [sSeq_ap, pr, Option.bind_some]
        dsimp only
        rw [sIf_ap, t1, hz]
        rfl
      | true =>
        refine ⟨[.i f, .i (eTR rows), s2, s3, s4, .i (rat x.2), .i (.int i), .i R, .o (eLs L), .i (eW x.1.1), .i (eL x.1.2.1), .i (eW x.1.2.2), s12, s13], [.i f, .i (eTR rows), s2, .i (.dic (encM eW eLs A)), .i (.dic (encM eW eLs B)), .i (rat x.2), .i (.int i), .i R, .o (eLs (L ++ [x.2 * S1 * S2 * V])), .i (eW x.1.1), .i (eL x.1.2.1), .i (eW x.1.2.2), .i (rat S1), .i (rat S2)], by simp [eFp, eT], ?_, L ++ [x.2 * S1 * S2 * V], _, _, _, _, _, _, _, _, ⟨.inr rfl, .inr rfl, by rw [sum_app]; omega, fun p hp => hm p (List.mem_cons_of_mem _ hp), by rw [List.length_append, List.length_singleton]; omega⟩, rfl⟩
        unfold wfB
        rw [sSeq_ap, pr, Option.bind_some]
        dsimp only
        rw [sIf_ap, t1, hz]
        have hlen : L.length < 1000000 := by omega
        simp [sApp, eLs, m1, m2, m3, w1, hlen])
  refine ⟨L, s3', s4', s5', s9', s10', s11', s12', s13', ⟨h.1, h.2.1, ?_⟩, by rw [h1, hs]⟩
  have := h.2.2.1
  simpa [sumM] using this
end Pm
end
section
set_option Elab.async false
set_option linter.all false
set_option maxRecDepth 100000
set_option maxHeartbeats 4000000
/-! PmFn18: worths_of_form, whole. -/
namespace Pm
open Pd
theorem eF_parts (c : Nat) (F : Prt) : opFld .parts (eF c F) = some (.lst (F.map eFp)) := rfl
theorem eF_cols (c : Nat) (F : Prt) : opFld .columns (eF c F) = some (.int c) := rfl
def resL (F : Prt) (rows : List Ltr) : List Int := (List.range rows.length).map (res F rows)
theorem q_worths_of_form {c : Nat} {F : Prt} {rows : List Ltr} (hc : c ≤ 2) (hr : ∀ r ∈ rows, RowOk c r) (hn : rows.length ≤ 3) (hF : ∀ p ∈ F, TrmOk c p.1) (hl : F.length ≤ 400) : g_worths_of_form [eF c F, eTR rows] = some (eLs (resL F rows)) := by
  obtain ⟨A, B, s5, s9, s10, s11, ⟨hA, hB, hk⟩, h1⟩ := wf_loop1 hc hr hn hF hl (eF c F) .u .u .u .u .u
  obtain ⟨ρ', h2, L, s3', s4', s5', s6', s7', s8', s9', s10', s11', s12', s13', ⟨_, _, hL, _, _⟩, hs⟩ := for_inv (g := gT [(gN 6), (gN 7)]) (b := (sSeq (sNew 8 (eLst []))
    (sSeq (sFor (iL (e1 (opFld .parts) (eV 0))) (gT [(gT [(gN 9), (gN 10), (gN 11)]), (gN 5)]) wfB)
    (sApp 2 (eCall g_total_of [(eV 8)]))))) (enc := fun p : Ltr × Nat => D.tup [.int p.2, eTRow p.1])
    (fun rem ρ => ∃ (L : List Int) (s3' s4' s5' s6' s7' s8' s9' s10' s11' s12' s13' : Sl), (Hd s3' (.dic (encM eW eLs A)) ∧ Hd s4' (.dic (encM eW eLs B)) ∧ L ++ rem.map (fun p => res F rows p.2) = rows.zipIdx.map (fun p => res F rows p.2) ∧ (∀ p ∈ rem, p ∈ rows.zipIdx) ∧ L.length + rem.length ≤ 3) ∧
      ρ = [.i (eF c F), .i (eTR rows), .o (eLs L), s3', s4', s5', s6', s7', s8', s9', s10', s11', s12', s13']) rows.zipIdx
    [.i (eF c F), .i (eTR rows), .o (.lst []), .o (.dic (encM eW eLs A)), .o (.dic (encM eW eLs B)), s5, .u, .u, .u, s9, s10, s11, .u, .u] ⟨[], _, _, _, _, _, _, _, _, _, _, _, ⟨.inl rfl, .inl rfl, rfl, fun p hp => hp, by simpa using hn⟩, rfl⟩ (fun x ys ρ ⟨L, s3, s4, s5, s6, s7, s8, s9, s10, s11, s12, s13, ⟨h3, h4, hL, hm, ll⟩, hρ⟩ => by
      subst hρ
      have hx := List.mem_zipIdx_iff_getElem?.mp (hm x List.mem_cons_self)
      obtain ⟨hi, hx1⟩ := List.getElem?_eq_some_iff.mp hx
      have hx2 : rows.getD x.2 [] = x.1 := by rw [List.getD_eq_getElem?_getD, hx]; rfl
      obtain ⟨L1, t3, t4, t5, t9, t10, t11, t12, t13, ⟨k3, k4, kL⟩, h5⟩ := wf_inner hc hr hn hF hl hA hB hk hi (eF c F) (.o (eLs L)) s3 s4 s5 s9 s10 s11 s12 s13 h3 h4
      rw [hx2] at h5
      have h6 : g_total_of [eLs L1] = some (rat (res F rows x.2)) := by rw [← kL]; exact q_total_of L1
      rw [List.length_cons] at ll
      have hLl : L.length < 1000000 := by omega
      refine ⟨[.i (eF c F), .i (eTR rows), .o (eLs L), s3, s4, s5, .i (.int x.2), .i (eTRow x.1), s8, s9, s10, s11, s12, s13], [.i (eF c F), .i (eTR rows), .o (eLs (L ++ [res F rows x.2])), t3, t4, t5, .i (.int x.2), .i (eTRow x.1), .i (eLs L1), t9, t10, t11, t12, t13], by simp, ?_, _, _, _, _, _, _, _, _, _, _, _, _, ⟨k3, k4, by rw [← hL]; simp, fun p hp => hm p (List.mem_cons_of_mem _ hp), by rw [List.length_append, List.length_singleton]; omega⟩, rfl⟩
      have e1 : iL (e1 (opFld .parts) (eV 0)) [.i (eF c F), .i (eTR rows), .o (eLs L), s3, s4, s5, .i (.int x.2), .i (eTRow x.1), .o (.lst []), s9, s10, s11, s12, s13] = some (F.map eFp, [.i (eF c F), .i (eTR rows), .o (eLs L), s3, s4, s5, .i (.int x.2), .i (eTRow x.1), .o (.lst []), s9, s10, s11, s12, s13]) := rfl
      generalize hW : wfB = W at *
      unfold eLs at h5 h6 e1 ⊢
      simp [e1, h5, h6, sApp, hLl])
  have hL' : L = resL F rows := by
    rw [List.map_nil, List.append_nil] at hL
    rw [hL]
    unfold resL
    match rows, hn with
    | [], _ => rfl
    | [_], _ => rfl
    | [_, _], _ => rfl
    | [_, _, _], _ => rfl
  subst hL'
  rw [hs] at h2
  have e1 : iL (e1 (opFld .parts) (eV 0)) [.i (eF c F), .i (eTR rows), .u, .o (.dic []), .o (.dic []), .u, .u, .u, .u, .u, .u, .u, .u, .u] = some (F.map eFp, [.i (eF c F), .i (eTR rows), .u, .o (.dic []), .o (.dic []), .u, .u, .u, .u, .u, .u, .u, .u, .u]) := rfl
  have e2 : iEnum (eV 1) [.i (eF c F), .i (eTR rows), .o (.lst []), .o (.dic (encM eW eLs A)), .o (.dic (encM eW eLs B)), s5, .u, .u, .u, s9, s10, s11, .u, .u] = some (rows.zipIdx.map fun p => D.tup [.int p.2, eTRow p.1], [.i (eF c F), .i (eTR rows), .o (.lst []), .o (.dic (encM eW eLs A)), .o (.dic (encM eW eLs B)), s5, .u, .u, .u, s9, s10, s11, .u, .u]) := by
    show some ((rows.map eTRow).zipIdx.map (fun p => D.tup [.int p.2, p.1]), _) = _
    rw [List.zipIdx_map, List.map_map]
    rfl
  unfold g_worths_of_form Pd.m_worths_of_form
  simp [run, envOf, sParOO, e1, h1, e2, h2]
end Pm
end
section
set_option Elab.async false
set_option linter.all false
set_option maxRecDepth 100000
set_option maxHeartbeats 4000000
/-! PmFn19: exchanges told and asked. -/
namespace Pm
open Pd
theorem we2 (a b : D) : g_with_exchange [.tup [a, b], .int 0] = some (.tup [b, a]) := rfl
theorem we30 (a b c : D) : g_with_exchange [.tup [a, b, c], .int 0] = some (.tup [b, a, c]) := rfl
theorem we31 (a b c : D) : g_with_exchange [.tup [a, b, c], .int 1] = some (.tup [a, c, b]) := rfl
theorem q_with_exchange {α : Type} (e : α → D) {l : List α} {k : Nat} (hl : l.length ≤ 3) (hk : k + 1 < l.length) : g_with_exchange [.tup (l.map e), .int k] = some (.tup ((exch l k).map e)) := by
  match l, hl, k, hk with
  | [a, b], _, 0, _ => exact we2 _ _
  | [a, b, c], _, 0, _ => exact we30 _ _ _
  | [a, b, c], _, 1, _ => exact we31 _ _ _
  | [_], _, k, hk => simp at hk
  | [], _, k, hk => simp at hk
  | [_, _], _, k + 1, hk => simp at hk <;> omega
  | [_, _, _], _, k + 2, hk => simp at hk <;> omega
  | _ :: _ :: _ :: _ :: _, hl, _, _ => simp at hl
theorem exch_length {α : Type} : ∀ (l : List α) (k : Nat), (exch l k).length = l.length
  | [], 0 => rfl
  | [], _ + 1 => rfl
  | [_], 0 => rfl
  | _ :: _ :: _, 0 => rfl
  | a :: l, k + 1 => by rw [exch, List.length_cons, List.length_cons, exch_length l k]
theorem exch_mem {α : Type} : ∀ (l : List α) (k : Nat) (x : α), x ∈ exch l k → x ∈ l
  | [], 0, x, h => h
  | [], _ + 1, x, h => h
  | [_], 0, x, h => h
  | a :: b :: l, 0, x, h => by
    rw [exch] at h
    simp only [List.mem_cons] at h ⊢
    rcases h with h | h | h
    · exact .inr (.inl h)
    · exact .inl h
    · exact .inr (.inr h)
  | a :: l, k + 1, x, h => by
    rw [exch] at h
    rcases List.mem_cons.mp h with h | h
    · rw [h]; exact List.mem_cons_self
    · exact List.mem_cons_of_mem _ (exch_mem l k x h)
theorem q_moved_to (p k : Nat) : g_moved_to [.int p, .int k] = some (.int (mvd p k)) := by
  unfold mvd
  by_cases h1 : p = k
  · subst h1
    simp [g_moved_to, m_moved_to, run, envOf]
  · have h1' : ¬ (p : Int) = k := by omega
    by_cases h2 : p = k + 1
    · have h2' : (p : Int) = k + 1 := by omega
      have h3 : ¬ ((k : Int) + 1 = k) := by omega
      subst h2
      simp [g_moved_to, m_moved_to, run, envOf, h3, h1]
    · have h2' : ¬ (p : Int) = k + 1 := by omega
      simp [g_moved_to, m_moved_to, run, envOf, h1', h1, h2, h2']
theorem q_law_moved (p k : Nat) : g__law_moved [.int p, .int k] = some (.int (mvd p k)) := q_moved_to p k
theorem mvd_lt {p k n : Nat} (hp : p < n) (hk : k + 1 < n) : mvd p k < n := by
  unfold mvd
  split
  · exact hk
  · split
    · omega
    · exact hp
def eTab (c : Nat) (rows : List Ltr) : D := .ins .tab [.int c, eTR rows]
theorem resL_ix {F : Prt} {rows : List Ltr} {p : Nat} (hp : p < rows.length) : opIx (eLs (resL F rows)) (.int p) = some (rat (res F rows p)) := by
  refine eLs_ix ?_
  unfold resL
  rw [List.getElem?_map, List.getElem?_range hp]
  rfl
def eEx (c : Nat) (rows : List Ltr) (p k : Nat) : D := .tup [eTab c rows, .int p, .int k]
theorem q_exchange_in {c : Nat} {rows : List Ltr} {p k : Nat} (hp : p < rows.length) (hk : k + 1 < rows.length) : g_exchange_in [.int c, eEx c rows p k, .int 2] = some (.bl true) := by
  have h1 : a1 opLen [eTR rows] = some (.int rows.length) := by unfold eTR; rw [len_tup, List.length_map]
  have h2 : opFld .rows (eTab c rows) = some (eTR rows) := rfl
  have h3 : opFld .columns (eTab c rows) = some (.int c) := rfl
  have h4 : eComp [4] (iT (eCut (eV 1) (some (eC (.int 1))) none)) (gN 4) tYes (eAnd (eCall g_is_count [(eV 4)]) (e2 opLt (eV 4) (eV 3))) [.i (.int c), .i (eEx c rows p k), .i (.int 2), .i (.int rows.length), .u] = some (.lst [.bl true, .bl true], [.i (.int c), .i (eEx c rows p k), .i (.int 2), .i (.int rows.length), .u]) :=
    comp_val (f := fun _ => D.bl true) (enc := D.int) [(p : Int), (k : Int)] rfl (by simp) rfl rfl fun n hn => ⟨[.i (.int c), .i (eEx c rows p k), .i (.int 2), .i (.int rows.length), .i (.int n)], by
      have h0 : 0 ≤ n ∧ n < rows.length := by
        simp at hn
        rcases hn with z | z <;> rw [z] <;> omega
      simp [turn, q_is_count, h0.1, h0.2], rfl⟩
  have h5 : opIsi (.cls .tab) (eTab c rows) = some (.bl true) := rfl
  have h6 : (k : Int) + 1 < rows.length := by omega
  have h7 : a1 opAll [.lst [.bl true, .bl true]] = some (.bl true) := rfl
  have i0 : opIx (eEx c rows p k) (.int 0) = some (eTab c rows) := rfl
  have i1 : opIx (eEx c rows p k) (.int (-1)) = some (.int k) := rfl
  have i2 : a1 opLen [eEx c rows p k] = some (.int 3) := rfl
  have i3 : opIsi .tuple (eEx c rows p k) = some (.bl true) := rfl
  generalize eEx c rows p k = X at *
  generalize eTab c rows = Y at *
  simp [g_exchange_in, m_exchange_in, run, envOf, opNeg, i0, i1, i2, i3, h1, h2, h3, h4, h5, h6, h7]
theorem q_is_exchange_at {c : Nat} {F : Prt} {rows : List Ltr} (hc : c ≤ 2) (hr : ∀ r ∈ rows, RowOk c r) (hn : rows.length ≤ 3) (hF : ∀ p ∈ F, TrmOk c p.1) (hl : F.length ≤ 400) {p k : Nat} (hp : p < rows.length) (hk : k + 1 < rows.length) :
    g_is_exchange_at [eF c F, eEx c rows p k] = some (.bl (!decide (res F rows p = res F (exch rows k) (mvd p k)))) := by
  have h1 := q_exchange_in (c := c) hp hk
  have h2 := q_worths_of_form hc hr hn hF hl
  have hr' : ∀ r ∈ exch rows k, RowOk c r := fun r h => hr r (exch_mem _ _ _ h)
  have h3 := q_worths_of_form hc hr' (by rw [exch_length]; exact hn) hF hl
  have h4 : g_with_exchange [eTR rows, .int k] = some (eTR (exch rows k)) := q_with_exchange eTRow hn hk
  have h5 := resL_ix (F := F) hp
  have h6 := resL_ix (F := F) (rows := exch rows k) (p := mvd p k) (by rw [exch_length]; exact mvd_lt hp hk)
  have h7 : g_want_form [eF c F] = some (eF c F) := rfl
  have h8 : opFld .rows (eTab c rows) = some (eTR rows) := rfl
  have h9 := eF_cols c F
  have h10 : ∀ ρ, gT [(gN 3), (gN 4), (gN 5)] (eEx c rows p k) ρ = gs [(gN 3), (gN 4), (gN 5)] [eTab c rows, .int p, .int k] ρ := fun ρ => rfl
  have h11 := q_moved_to p k
  have h12 := ne_rat (res F rows p) (res F (exch rows k) (mvd p k))
  generalize eEx c rows p k = X at *
  generalize eTab c rows = Y at *
  simp [g_is_exchange_at, m_is_exchange_at, run, envOf, h7, h9, h1, h10, sPar, h8, h2, h4, h3, h5, h11, h6, h12]
end Pm
end
section
set_option Elab.async false
set_option linter.all false
set_option maxRecDepth 100000
set_option maxHeartbeats 4000000
/-! PmFn20: tables made; exchanged. -/
namespace Pm
open Pd
theorem tup_lst (ds : List D) : a1 opTuple [.lst ds] = some (.tup ds) := rfl
theorem lst_tup (ds : List D) : a1 opList [.tup ds] = some (.lst ds) := rfl
section
variable {e : Int → D} (he1 : ∀ x, g_is_number [e x] = some (.bl true)) (he2 : ∀ x, g_ratio_of [e x] = some (rat x))
include he1 in
theorem q_is_row {c : Nat} {r : Ltr} (hr : r.length = c) (hc : c ≤ 3) : g_is_row [.int c, .lst (r.map e)] = some (.bl true) := by
  have h1 : eComp [2] (iL (eV 1)) (gN 2) tYes (eCall g_is_number [(eV 2)]) [.i (.int c), .i (.lst (r.map e)), .u] = some (.lst (r.map fun _ => D.bl true), [.i (.int c), .i (.lst (r.map e)), .u]) :=
    comp_val (enc := e) r (iL_ap (eV 1) _ _ _ rfl) (by omega) rfl rfl fun x _ => ⟨[.i (.int c), .i (.lst (r.map e)), .i (e x)], by simp [turn, he1], rfl⟩
  have h2 : g_is_list [.lst (r.map e)] = some (.bl true) := rfl
  have h3 := all_map r
  simp [g_is_row, m_is_row, run, envOf, h1, h2, h3, hr]
include he2 in
theorem q_told_row {r : Ltr} (hr : r.length ≤ 3) : g_told_row [.lst (r.map e)] = some (eTRow r) := by
  have h1 : eComp [1] (iL (eV 0)) (gN 1) tYes (eCall g_ratio_of [(eV 1)]) [.i (.lst (r.map e)), .u] = some (.lst (r.map rat), [.i (.lst (r.map e)), .u]) :=
    comp_val (enc := e) r (iL_ap (eV 0) _ _ _ rfl) (by omega) rfl rfl fun x _ => ⟨[.i (.lst (r.map e)), .i (e x)], by simp [turn, he2], rfl⟩
  simp [g_told_row, m_told_row, run, envOf, h1, a1, opTuple, eTRow]
include he1 he2 in
theorem q_table {c : Nat} {rows : List Ltr} (hr : ∀ r ∈ rows, r.length = c) (hc : c ≤ 3) (hn : rows.length ≤ 40) : make .tab g_Table_init [.int c, .lst (rows.map fun r => .lst (r.map e))] = some (eTab c rows) := by
  have h1 : ∀ (o : D), eComp [3] (iL (eV 2)) (gN 3) tYes (eCall g_is_row [(eV 1), (eV 3)]) [.o o, .i (.int c), .i (.lst (rows.map fun r => .lst (r.map e))), .u] = some (.lst (rows.map fun _ => D.bl true), [.o o, .i (.int c), .i (.lst (rows.map fun r => .lst (r.map e))), .u]) := fun o =>
    comp_val (enc := fun r : Ltr => D.lst (r.map e)) rows (iL_ap (eV 2) _ _ _ rfl) (by omega) rfl rfl fun r h => ⟨[.o o, .i (.int c), .i (.lst (rows.map fun r => .lst (r.map e))), .i (.lst (r.map e))], by simp [turn, q_is_row he1 (hr r h) hc], rfl⟩
  have h2 : ∀ (o : D), eComp [3] (iL (eV 2)) (gN 3) tYes (eCall g_told_row [(eV 3)]) [.o o, .i (.int c), .i (.lst (rows.map fun r => .lst (r.map e))), .u] = some (.lst (rows.map eTRow), [.o o, .i (.int c), .i (.lst (rows.map fun r => .lst (r.map e))), .u]) := fun o =>
    comp_val (enc := fun r : Ltr => D.lst (r.map e)) rows (iL_ap (eV 2) _ _ _ rfl) (by omega) rfl rfl fun r h => ⟨[.o o, .i (.int c), .i (.lst (rows.map fun r => .lst (r.map e))), .i (.lst (r.map e))], by simp [turn, q_told_row he2 (r := r) (by rw [hr r h]; exact hc)], rfl⟩
  have h3 : g_is_list [.lst (rows.map fun r => .lst (r.map e))] = some (.bl true) := rfl
  have h4 : a1 opLen [.lst (rows.map fun r => .lst (r.map e))] = some (.int rows.length) := by rw [len_lst, List.length_map]
  have h5 : ¬ (40 : Int) < rows.length := by omega
  have h6 := all_map rows
  have h7 := q_want_columns hc
  generalize (D.lst (rows.map fun r => .lst (r.map e))) = R at *
  simp [make, g_Table_init, m_Table_init, runO, envOfO, h7, h3, h4, h5, h1, h2, h6, sFld, fdIx, eTab, tup_lst, eTR]
end
theorem q_tableI {c : Nat} {rows : List Ltr} (hr : ∀ r ∈ rows, r.length = c) (hc : c ≤ 3) (hn : rows.length ≤ 40) : make .tab g_Table_init [.int c, eRows rows] = some (eTab c rows) := q_table q_is_number q_ratio_of hr hc hn
theorem q_tableR {c : Nat} {rows : List Ltr} (hr : ∀ r ∈ rows, r.length = c) (hc : c ≤ 3) (hn : rows.length ≤ 40) : make .tab g_Table_init [.int c, .lst (rows.map eLs)] = some (eTab c rows) := q_table q_is_numberR q_ratio_ofR hr hc hn
theorem q_table_of {c : Nat} {rows : List Ltr} (hr : ∀ r ∈ rows, r.length = c) (hc : c ≤ 3) (hn : rows.length ≤ 40) : g_table_of [.int c, .lst (rows.map eTRow)] = some (eTab c rows) := by
  have h1 : eComp [2] (iL (eV 1)) (gN 2) tYes (eCall (a1 opList) [(eV 2)]) [.i (.int c), .i (.lst (rows.map eTRow)), .u] = some (.lst (rows.map eLs), [.i (.int c), .i (.lst (rows.map eTRow)), .u]) :=
    comp_val (enc := eTRow) rows (iL_ap (eV 1) _ _ _ rfl) (by omega) rfl rfl fun r h => ⟨[.i (.int c), .i (.lst (rows.map eTRow)), .i (eTRow r)], by simp [turn, a1, opList, eTRow, eLs], rfl⟩
  simp [g_table_of, m_table_of, run, envOf, h1, q_tableR hr hc hn]
theorem ex2 {c : Int} {A B T : D} (h1 : g_table_of [.int c, .lst [B, A]] = some T) : g_exchanged [.ins .tab [.int c, .tup [A, B]], .int 0] = some T := by
  have i1 : opFld .rows (.ins .tab [.int c, .tup [A, B]]) = some (.tup [A, B]) := rfl
  have i2 : opFld .columns (.ins .tab [.int c, .tup [A, B]]) = some (.int c) := rfl
  have i3 : g_want_table [.ins .tab [.int c, .tup [A, B]]] = some (.ins .tab [.int c, .tup [A, B]]) := rfl
  have i4 : opIx (.lst [A, B]) (.int 0) = some A := rfl
  have i5 : opIx (.lst [A, B]) (.int 1) = some B := rfl
  have i6 : ∀ z, setD (.lst [A, B]) (.int 0) z = some (.lst [z, B]) := fun _ => rfl
  have i7 : ∀ z, setD (.lst [B, B]) (.int 1) z = some (.lst [B, z]) := fun _ => rfl
  generalize (D.ins .tab [.int c, .tup [A, B]]) = X at *
  simp [g_exchanged, m_exchanged, run, envOf, i3, q_is_count, i1, i2, lst_tup, i4, i5, i6, i7, h1]
theorem ex30 {c : Int} {A B C T : D} (h1 : g_table_of [.int c, .lst [B, A, C]] = some T) : g_exchanged [.ins .tab [.int c, .tup [A, B, C]], .int 0] = some T := by
  have i1 : opFld .rows (.ins .tab [.int c, .tup [A, B, C]]) = some (.tup [A, B, C]) := rfl
  have i2 : opFld .columns (.ins .tab [.int c, .tup [A, B, C]]) = some (.int c) := rfl
  have i3 : g_want_table [.ins .tab [.int c, .tup [A, B, C]]] = some (.ins .tab [.int c, .tup [A, B, C]]) := rfl
  have i4 : opIx (.lst [A, B, C]) (.int 0) = some A := rfl
  have i5 : opIx (.lst [A, B, C]) (.int 1) = some B := rfl
  have i6 : ∀ z, setD (.lst [A, B, C]) (.int 0) z = some (.lst [z, B, C]) := fun _ => rfl
  have i7 : ∀ z, setD (.lst [B, B, C]) (.int 1) z = some (.lst [B, z, C]) := fun _ => rfl
  generalize (D.ins .tab [.int c, .tup [A, B, C]]) = X at *
  simp [g_exchanged, m_exchanged, run, envOf, i3, q_is_count, i1, i2, lst_tup, i4, i5, i6, i7, h1]
theorem ex31 {c : Int} {A B C T : D} (h1 : g_table_of [.int c, .lst [A, C, B]] = some T) : g_exchanged [.ins .tab [.int c, .tup [A, B, C]], .int 1] = some T := by
  have i1 : opFld .rows (.ins .tab [.int c, .tup [A, B, C]]) = some (.tup [A, B, C]) := rfl
  have i2 : opFld .columns (.ins .tab [.int c, .tup [A, B, C]]) = some (.int c) := rfl
  have i3 : g_want_table [.ins .tab [.int c, .tup [A, B, C]]] = some (.ins .tab [.int c, .tup [A, B, C]]) := rfl
  have i4 : opIx (.lst [A, B, C]) (.int 1) = some B := rfl
  have i5 : opIx (.lst [A, B, C]) (.int 2) = some C := rfl
  have i6 : ∀ z, setD (.lst [A, B, C]) (.int 1) z = some (.lst [A, z, C]) := fun _ => rfl
  have i7 : ∀ z, setD (.lst [A, C, C]) (.int 2) z = some (.lst [A, C, z]) := fun _ => rfl
  generalize (D.ins .tab [.int c, .tup [A, B, C]]) = X at *
  simp [g_exchanged, m_exchanged, run, envOf, i3, q_is_count, i1, i2, lst_tup, i4, i5, i6, i7, h1]
theorem q_exchanged {c : Nat} {rows : List Ltr} {k : Nat} (hr : ∀ r ∈ rows, r.length = c) (hc : c ≤ 3) (hn : rows.length ≤ 3) (hk : k + 1 < rows.length) : g_exchanged [eTab c rows, .int k] = some (eTab c (exch rows k)) := by
  have h1 := q_table_of (c := c) (rows := exch rows k) (fun r h => hr r (exch_mem _ _ _ h)) hc (by rw [exch_length]; omega)
  match rows, hn, k, hk with
  | [a, b], _, 0, _ => exact ex2 h1
  | [a, b, d], _, 0, _ => exact ex30 h1
  | [a, b, d], _, 1, _ => exact ex31 h1
  | [_], _, k, hk => simp at hk
  | [], _, k, hk => simp at hk
  | [_, _], _, k + 1, hk => simp at hk <;> omega
  | [_, _, _], _, k + 2, hk => simp at hk <;> omega
  | _ :: _ :: _ :: _ :: _, hl, _, _ => simp at hl
end Pm
end
section
set_option Elab.async false
set_option linter.all false
set_option maxRecDepth 100000
set_option maxHeartbeats 4000000
/-! PmFn21: with_less, marked, unlike_at. -/
namespace Pm
open Pd
theorem runO_nx {b : S} {n np : Nat} {d d' : D} {ds : List D} {ρ : Env} (h : ds.length + 1 = np) (hb : b (envOfO n d ds) = some (.nx, .o d' :: ρ)) : runO b n np d ds = some (.non, d') := by
  unfold runO
  rw [if_pos h, hb]
theorem runO_rt {b : S} {n np : Nat} {d d' r : D} {ds : List D} {ρ : Env} (h : ds.length + 1 = np) (hb : b (envOfO n d ds) = some (.rt r, .o d' :: ρ)) : runO b n np d ds = some (r, d') := by
  unfold runO
  rw [if_pos h, hb]
theorem run_rt {b : S} {n np : Nat} {r : D} {ds : List D} {ρ : Env} (h : ds.length = np) (hb : b (envOf n ds) = some (.rt r, ρ)) : run b n np ds = some r := by
  unfold run
  rw [if_pos h, hb]
abbrev eM (m : Sums) : D := .dic (encM eW rat m)
theorem q_with_less {m : Sums} (hm : m.length < 1000000) (w : Wrd) (v : Int) : g_with_less (eM m) [eW w, rat v] = some (.non, eM (tless m w v)) := by
  have h1 : eGetO 0 (eV 1) (eCall Pd.mkRat1 [(eC (.int 0))]) [.o (eM m), .i (eW w), .i (rat v), .u] = some (rat ((tget m w).getD 0), [.o (eM m), .i (eW w), .i (rat v), .u]) := by
    rw [getO_enc (ρ1 := [.o (eM m), .i (eW w), .i (rat v), .u]) (ρ2 := [.o (eM m), .i (eW w), .i (rat v), .u]) (m := m) encW dW (x := w) (y := rat 0) rfl rfl (by simp [mkRat1_eq]) rfl]
    cases tget m w <;> rfl
  have h2 := add_rat ((tget m w).getD 0) v
  have h3 : ∀ ρ, ρ = [.o (eM m), .i (eW w), .i (rat v), .i (rat ((tget m w).getD 0 + v))] → tst (e2 opEq (e1 (opPrp .rat g_Ratio_sign) (eV 3)) (eC (.int 0))) ρ = some (decide ((tget m w).getD 0 + v = 0), ρ) := by
    intro ρ hρ
    have h4 : opPrp .rat g_Ratio_sign (rat ((tget m w).getD 0 + v)) = g_Ratio_sign [rat ((tget m w).getD 0 + v)] := rfl
    generalize (tget m w).getD 0 + v = x at *
    subst hρ
    simp [h4, sign_rat]
    by_cases z1 : 0 < x
    · have z2 : ¬ x < 0 := by omega
      have z3 : ¬ x = 0 := by omega
      simp [z1, z2, z3]
    · by_cases z2 : x < 0
      · have z3 : ¬ x = 0 := by omega
        simp [z1, z2, z3]
      · have z3 : x = 0 := by omega
        simp [z3]
  have e0 : (sAsg (e2 opAddR (eGetO 0 (eV 1) (eCall Pd.mkRat1 [(eC (.int 0))])) (eV 2)) (gN 3)) [.o (eM m), .i (eW w), .i (rat v), .u] = some (.nx, [.o (eM m), .i (eW w), .i (rat v), .i (rat ((tget m w).getD 0 + v))]) := by
    simp [h1, h2]
  have h5 : ddrop (encM eW rat m) (eW w) = encM eW rat (tdrop m w) := ddrop_enc encW w m
  have h6 : setD (eM m) (eW w) (rat ((tget m w).getD 0 + v)) = some (.dic (encM eW rat (tput m w ((tget m w).getD 0 + v)))) := setD_enc encW dW hm w _
  unfold g_with_less Pd.m_with_less tless
  refine runO_nx rfl (ρ := [.i (eW w), .i (rat v), .i (rat ((tget m w).getD 0 + v))]) ?_
  show (sSeq _ _) [.o (eM m), .i (eW w), .i (rat v), .u] = _
  rw [sSeq_ap, e0, Option.bind_some]
  dsimp only
  rw [sIf_ap, h3 _ rfl, Option.bind_some]
  dsimp only
  by_cases hz : (tget m w).getD 0 + v = 0
  · have k1 : kOk (eW w) = true := encW.k w
    have k2 := dW w
    simp [hz, sPop, k1, k2, h5]
  · simp [hz, h6]
def eMk (e : Trm × Int) : D := .tup [eW (word e.1), .int (place e.1), rat e.2]
theorem q_marked {c : Nat} {p : Trm × Int} (h : TrmOk c p.1) : g_marked [eFp p] = some (eMk p) := by
  have hs := h.s
  unfold len at hs
  have h1 : opAdd (eW p.1.1) (.tup [eL p.1.2.1]) = some (eW (p.1.1 ++ [p.1.2.1])) := by
    show (if (p.1.1.map eL).length + 1 ≤ 1000 then some (D.tup (p.1.1.map eL ++ [eL p.1.2.1])) else none) = _
    rw [List.length_map, if_pos (by omega), eW, List.map_append]
    rfl
  have h2 : opAdd (eW (p.1.1 ++ [p.1.2.1])) (eW p.1.2.2) = some (eW (word p.1)) := by
    show (if ((p.1.1 ++ [p.1.2.1]).map eL).length + (p.1.2.2.map eL).length ≤ 1000 then some (D.tup ((p.1.1 ++ [p.1.2.1]).map eL ++ p.1.2.2.map eL)) else none) = _
    rw [List.length_map, List.length_map, List.length_append, List.length_singleton, if_pos (by omega), ← List.map_append, eW, word]
    simp
  have h3 : a1 opLen [eW p.1.1] = some (.int p.1.1.length) := by unfold eW; rw [len_tup, List.length_map]
  simp [g_marked, m_marked, run, envOf, eFp, eT, h1, h2, h3, eMk, place]
theorem unlS_length (pos k : Nat) (m : Sums) (e : Trm × Int) : (unlS pos k m e).length ≤ m.length + 2 := by
  unfold unlS
  dsimp only
  have h1 : (if place e.1 = pos then tless m (word e.1) e.2 else m).length ≤ m.length + 1 := by
    split
    · exact length_tless
    · omega
  split
  · have := length_tless (m := if place e.1 = pos then tless m (word e.1) e.2 else m) (k := exch (word e.1) k) (v := -e.2)
    omega
  · omega
abbrev unlB : S := (sSeq (sIf (tst (e2 opEq (eV 5) (eV 1))) (sEx (eCallO g_with_less 3 [(eV 4), (eV 6)])) sNx)
    (sIf (tst (e2 opEq (eV 5) (eCall g_moved_to [(eV 1), (eV 2)]))) (sEx (eCallO g_with_less 3 [(eCall g_with_exchange [(eV 4), (eV 2)]), (e1 opNegR (eV 6))])) sNx))
theorem q_unlike_at {M : Prt} {pos k : Nat} (hw : ∀ e ∈ M, (word e.1).length ≤ 3 ∧ k + 1 < (word e.1).length) (hl : M.length ≤ 400) : g_unlike_at [.lst (M.map eMk), .int pos, .int k] = some (eM (unl M pos k)) := by
  obtain ⟨ρ', h1, m, s4, s5, s6, ⟨hm, _, _⟩, hs⟩ := for_inv (g := gT [(gN 4), (gN 5), (gN 6)]) (b := unlB) (enc := eMk)
    (fun rem ρ => ∃ (m : Sums) (s4 s5 s6 : Sl), (rem.foldl (unlS pos k) m = unl M pos k ∧ (∀ e ∈ rem, e ∈ M) ∧ m.length + 2 * rem.length ≤ 800) ∧ ρ = [.i (.lst (M.map eMk)), .i (.int pos), .i (.int k), .o (eM m), s4, s5, s6]) M [.i (.lst (M.map eMk)), .i (.int pos), .i (.int k), .o (eM []), .u, .u, .u] ⟨[], _, _, _, ⟨rfl, fun e he => he, by simp; omega⟩, rfl⟩ (fun x ys ρ ⟨m, s4, s5, s6, ⟨hm, hin, hll⟩, hρ⟩ => by
      subst hρ
      rw [List.length_cons] at hll
      obtain ⟨w3, wk⟩ := hw x (hin x List.mem_cons_self)
      have a1 := q_with_less (m := m) (by omega) (word x.1) x.2
      have a2 := q_with_exchange eL w3 wk
      have a2' : g_with_exchange [eW (word x.1), .int k] = some (eW (exch (word x.1) k)) := a2
      have a3 := q_moved_to pos k
      have a4 := neg_rat x.2
      have a5 := unlS_length pos k m x
      have hm' : ys.foldl (unlS pos k) (unlS pos k m x) = unl M pos k := hm
      have y1 : (sIf (tst (e2 opEq (eV 5) (eV 1))) (sEx (eCallO g_with_less 3 [(eV 4), (eV 6)])) sNx) [.i (.lst (M.map eMk)), .i (.int pos), .i (.int k), .o (eM m), .i (eW (word x.1)), .i (.int (place x.1)), .i (rat x.2)] = some (.nx, [.i (.lst (M.map eMk)), .i (.int pos), .i (.int k), .o (eM (if place x.1 = pos then tless m (word x.1) x.2 else m)), .i (eW (word x.1)), .i (.int (place x.1)), .i (rat x.2)]) := by
        by_cases z : place x.1 = pos
        · have z' : (place x.1 : Int) = pos := by omega
          rw [if_pos z]
          simp [z', a1]
        · have z' : ¬ (place x.1 : Int) = pos := by omega
          rw [if_neg z]
          simp [z']
      have a6 := q_with_less (m := if place x.1 = pos then tless m (word x.1) x.2 else m) (by
        split
        · have := length_tless (m := m) (k := word x.1) (v := x.2); omega
        · omega) (exch (word x.1) k) (-x.2)
      have y2 : (sIf (tst (e2 opEq (eV 5) (eCall g_moved_to [(eV 1), (eV 2)]))) (sEx (eCallO g_with_less 3 [(eCall g_with_exchange [(eV 4), (eV 2)]), (e1 opNegR (eV 6))])) sNx) [.i (.lst (M.map eMk)), .i (.int pos), .i (.int k), .o (eM (if place x.1 = pos then tless m (word x.1) x.2 else m)), .i (eW (word x.1)), .i (.int (place x.1)), .i (rat x.2)] = some (.nx, [.i (.lst (M.map eMk)), .i (.int pos), .i (.int k), .o (eM (unlS pos k m x)), .i (eW (word x.1)), .i (.int (place x.1)), .i (rat x.2)]) := by
        unfold unlS
        dsimp only
        generalize (if place x.1 = pos then tless m (word x.1) x.2 else m) = m1 at *
        by_cases z : place x.1 = mvd pos k
        · have z' : (place x.1 : Int) = mvd pos k := by omega
          rw [if_pos z]
          simp [a3, z', a2', a4, a6]
        · have z' : ¬ (place x.1 : Int) = mvd pos k := by omega
          rw [if_neg z]
          simp [a3, z']
      refine ⟨[.i (.lst (M.map eMk)), .i (.int pos), .i (.int k), .o (eM m), .i (eW (word x.1)), .i (.int (place x.1)), .i (rat x.2)], [.i (.lst (M.map eMk)), .i (.int pos), .i (.int k), .o (eM (unlS pos k m x)), .i (eW (word x.1)), .i (.int (place x.1)), .i (rat x.2)], by simp [eMk], ?_, _, _, _, _, ⟨hm', fun e he => hin e (List.mem_cons_of_mem _ he), by omega⟩, rfl⟩
      unfold unlB
      rw [sSeq_ap, y1, Option.bind_some]
      exact y2)
  have hm' : m = unl M pos k := hm
  subst hm'
  rw [hs] at h1
  have h2 : iL (eV 0) [.i (.lst (M.map eMk)), .i (.int pos), .i (.int k), .o (.dic []), .u, .u, .u] = some (M.map eMk, [.i (.lst (M.map eMk)), .i (.int pos), .i (.int k), .o (.dic []), .u, .u, .u]) := rfl
  have h1' : forL (gT [(gN 4), (gN 5), (gN 6)]) unlB (M.map eMk) [.i (.lst (M.map eMk)), .i (.int pos), .i (.int k), .o (.dic []), .u, .u, .u] = _ := h1
  unfold g_unlike_at Pd.m_unlike_at
  simp [run, envOf, h2, h1']
end Pm
end
section
set_option Elab.async false
set_option linter.all false
set_option maxRecDepth 100000
set_option maxHeartbeats 4000000
/-! PmFn22: at_number. -/
namespace Pm
open Pd
theorem q_raised {v p : Int} (h0 : 0 ≤ p) (h2 : p ≤ 2) (hv : small v = true) : g_raised [.int v, .int p] = some (.int (v ^ p.toNat)) := by
  obtain ⟨ρ', h1, s, hs⟩ := for_inv (g := gN 3) (b := sAsg (e2 opMul (eV 2) (eV 0)) (gN 2)) (enc := fun j : Nat => D.int j) (fun rem ρ => ∃ s, (rem.length ≤ p.toNat) ∧ ρ = [.i (.int v), .i (.int p), .i (.int (v ^ (p.toNat - rem.length))), s]) (List.range p.toNat) [.i (.int v), .i (.int p), .i (.int 1), .u] ⟨.u, by simp⟩ (fun a ys ρ ⟨s, hn, hρ⟩ => by
      subst hρ
      have hm : opMul (.int (v ^ (p.toNat - (a :: ys).length))) (.int v) = some (.int (v ^ (p.toNat - (a :: ys).length) * v)) := mul_small hv
      rw [List.length_cons] at hn
      have e : p.toNat - ys.length = (p.toNat - (a :: ys).length) + 1 := by rw [List.length_cons]; omega
      have e2 : v ^ (p.toNat - (a :: ys).length) * v = v ^ (p.toNat - ys.length) := by
        rw [e, Int.pow_succ]
      rw [e2] at hm
      refine ⟨[.i (.int v), .i (.int p), .i (.int (v ^ (p.toNat - (a :: ys).length))), .i (.int a)], [.i (.int v), .i (.int p), .i (.int (v ^ (p.toNat - ys.length))), .i (.int a)], by simp, ?_, _, by omega, rfl⟩
      simp only [List.length_cons] at hm ⊢
      simp [hm])
  rw [hs.2] at h1
  have h3 : iRng (eV 1) [.i (.int v), .i (.int p), .i (.int 1), .u] = some ((List.range p.toNat).map fun (j : Nat) => D.int j, [.i (.int v), .i (.int p), .i (.int 1), .u]) := iRng_ap (eV 1) _ p _ rfl (by omega) (by omega)
  simp at h1
  simp [g_raised, m_raised, run, envOf, h3, h1]
theorem add_tup {a b : List D} (h : a.length + b.length ≤ 1000) : opAdd (.tup a) (.tup b) = some (.tup (a ++ b)) := by
  show (if a.length + b.length ≤ 1000 then some (D.tup (a ++ b)) else none) = _
  rw [if_pos h]
theorem ix_tup {α : Type} (e : α → D) {l : List α} {j : Nat} {x : α} (h : l[j]? = some x) : opIx (.tup (l.map e)) (.int j) = some (e x) := by
  show atD (l.map e) j = _
  unfold atD
  rw [if_pos (by omega), Int.toNat_natCast, List.getElem?_map, h]
  rfl
theorem eCut_lo {α : Type} (e : α → D) {l : List α} {j : Nat} {a b : E} {ρ ρ1 ρ2 : Env} (h1 : a ρ = some (.tup (l.map e), ρ1)) (h2 : b ρ1 = some (.int j, ρ2)) (hj : j ≤ l.length) : eCut a none (some b) ρ = some (.tup ((l.take j).map e), ρ2) := by
  unfold eCut
  rw [bnd_some h1]
  show bnd (ret none) _ ρ1 = _
  rw [bnd_some (ret_ap _ _)]
  show bnd (bnd b fun y => Pd.lift ((int? y).map some)) _ ρ1 = _
  rw [bnd_ap, bnd_some h2]
  show some (D.tup (cutD (l.map e) none (some (j : Int))), ρ2) = _
  rw [cut_lo _ _ (by rw [List.length_map]; exact hj), List.map_take]
theorem eCut_hi {α : Type} (e : α → D) {l : List α} {j : Nat} {a b : E} {ρ ρ1 ρ2 : Env} (h1 : a ρ = some (.tup (l.map e), ρ1)) (h2 : b ρ1 = some (.int j, ρ2)) : eCut a (some b) none ρ = some (.tup ((l.drop j).map e), ρ2) := by
  unfold eCut
  rw [bnd_some h1]
  show bnd (bnd b fun y => Pd.lift ((int? y).map some)) _ ρ1 = _
  rw [bnd_ap, bnd_ap, h2]
  show some (D.tup (cutD (l.map e) (some (j : Int)) none), ρ2) = _
  rw [cut_hi, List.map_drop]
theorem set_cut {α : Type} {l : List α} {j : Nat} {x : α} (h : j < l.length) : l.take j ++ [x] ++ l.drop (j + 1) = l.set j x := by
  rw [List.set_eq_take_append_cons_drop, if_pos h]
  simp
abbrev atB : S := (sSeq (sAsg (e2 opIx (e2 opIx (eV 5) (eV 1)) (eV 2)) (gN 6))
    (sSeq (sAsg (e2 opAdd (e2 opAdd (eCut (e2 opIx (eV 5) (eV 1)) none (some (eV 2))) (eTup [(eC (.int 0))])) (eCut (e2 opIx (eV 5) (eV 1)) (some (e2 opAdd (eV 2) (eC (.int 1)))) none)) (gN 7))
    (sIf (tOr (tst (e2 opEq (eV 6) (eC (.int 0)))) (tst (e2 opNe (eV 3) (eC (.int 0))))) (sEx (eCallO g_with_less 4 [(e2 opAdd (e2 opAdd (eCut (eV 5) none (some (eV 1))) (eTup [(eV 7)])) (eCut (eV 5) (some (e2 opAdd (eV 1) (eC (.int 1)))) none)), (e2 opMulR (e2 opIx (eV 0) (eV 5)) (eCall g_raised [(eV 3), (eV 6)]))])) sNx)))
theorem at_turn {m f : Sums} {n c : Nat} (g : GoodS m n c) (hn : n ≤ 3) (hc : c ≤ 2) {j k : Nat} (hj : j < n) (hk : k < c) {v : Int} (hv : 0 ≤ v ∧ v ≤ 2) {x : Wrd × Int} (hx : x ∈ m) (hf : f.length < 1000000) (s6 s7 : Sl) :
    atB [.i (eM m), .i (.int j), .i (.int k), .i (.int v), .o (eM f), .i (eW x.1), s6, s7] = some (.nx, [.i (eM m), .i (.int j), .i (.int k), .i (.int v), .o (eM (atS j k v f x)), .i (eW x.1), .i (.int (getw x.1 j k)), .i (eL ((x.1.getD j []).set k 0))]) := by
  have wl := g.wl x hx
  have hjx : j < x.1.length := by omega
  have hjg : x.1[j]? = some (x.1.getD j []) := by rw [List.getD_eq_getElem?_getD, List.getElem?_eq_getElem hjx]; rfl
  have hlm : x.1.getD j [] ∈ x.1 := by rw [List.getD_eq_getElem?_getD, List.getElem?_eq_getElem hjx]; exact List.getElem_mem hjx
  have ll := g.ll x hx _ hlm
  have hgw := getw_rng g j k x hx
  have hkx : k < (x.1.getD j []).length := by omega
  have hkg : (x.1.getD j [])[k]? = some (getw x.1 j k) := by unfold getw; rw [List.getD_eq_getElem?_getD (l := x.1.getD j []), List.getElem?_eq_getElem hkx]; rfl
  generalize hL : x.1.getD j [] = L at *
  have a1 : opIx (eW x.1) (.int j) = some (eL L) := ix_tup eL hjg
  have a2 : opIx (eL L) (.int k) = some (.int (getw x.1 j k)) := ix_tup D.int hkg
  have y1 : (sAsg (e2 opIx (e2 opIx (eV 5) (eV 1)) (eV 2)) (gN 6)) [.i (eM m), .i (.int j), .i (.int k), .i (.int v), .o (eM f), .i (eW x.1), s6, s7] = some (.nx, [.i (eM m), .i (.int j), .i (.int k), .i (.int v), .o (eM f), .i (eW x.1), .i (.int (getw x.1 j k)), s7]) := by
    simp [a1, a2]
  have c1 : eCut (e2 opIx (eV 5) (eV 1)) none (some (eV 2)) [.i (eM m), .i (.int j), .i (.int k), .i (.int v), .o (eM f), .i (eW x.1), .i (.int (getw x.1 j k)), s7] = some (.tup ((L.take k).map D.int), [.i (eM m), .i (.int j), .i (.int k), .i (.int v), .o (eM f), .i (eW x.1), .i (.int (getw x.1 j k)), s7]) := eCut_lo D.int (ρ1 := [.i (eM m), .i (.int j), .i (.int k), .i (.int v), .o (eM f), .i (eW x.1), .i (.int (getw x.1 j k)), s7]) (by simp [a1, eL]) rfl (by omega)
  have c2 : eCut (e2 opIx (eV 5) (eV 1)) (some (e2 opAdd (eV 2) (eC (.int 1)))) none [.i (eM m), .i (.int j), .i (.int k), .i (.int v), .o (eM f), .i (eW x.1), .i (.int (getw x.1 j k)), s7] = some (.tup ((L.drop (k + 1)).map D.int), [.i (eM m), .i (.int j), .i (.int k), .i (.int v), .o (eM f), .i (eW x.1), .i (.int (getw x.1 j k)), s7]) := eCut_hi D.int (ρ1 := [.i (eM m), .i (.int j), .i (.int k), .i (.int v), .o (eM f), .i (eW x.1), .i (.int (getw x.1 j k)), s7]) (by simp [a1, eL]) rfl
  have p1 : opAdd (.tup ((L.take k).map D.int)) (.tup [.int 0]) = some (.tup ((L.take k ++ [0]).map D.int)) := by
    rw [add_tup (by rw [List.length_map, List.length_take]; simp; omega), List.map_append]
    rfl
  have p2 : opAdd (.tup ((L.take k ++ [0]).map D.int)) (.tup ((L.drop (k + 1)).map D.int)) = some (eL (L.set k 0)) := by
    rw [add_tup (by rw [List.length_map, List.length_map, List.length_append, List.length_take, List.length_drop]; simp; omega), ← List.map_append, set_cut hkx]
    rfl
  have y2 : (sAsg (e2 opAdd (e2 opAdd (eCut (e2 opIx (eV 5) (eV 1)) none (some (eV 2))) (eTup [(eC (.int 0))])) (eCut (e2 opIx (eV 5) (eV 1)) (some (e2 opAdd (eV 2) (eC (.int 1)))) none)) (gN 7)) [.i (eM m), .i (.int j), .i (.int k), .i (.int v), .o (eM f), .i (eW x.1), .i (.int (getw x.1 j k)), s7] = some (.nx, [.i (eM m), .i (.int j), .i (.int k), .i (.int v), .o (eM f), .i (eW x.1), .i (.int (getw x.1 j k)), .i (eL (L.set k 0))]) := by
    simp only [sAsg_ap, e2_ap, c1, Option.bind_some, eTup_ap, args_cons, args_nil, eC_ap, p1, c2, p2, Option.map_some]
    simp
  have t1 : tOr (tst (e2 opEq (eV 6) (eC (.int 0)))) (tst (e2 opNe (eV 3) (eC (.int 0)))) [.i (eM m), .i (.int j), .i (.int k), .i (.int v), .o (eM f), .i (eW x.1), .i (.int (getw x.1 j k)), .i (eL (L.set k 0))] = some (decide (getw x.1 j k = 0 ∨ v ≠ 0), [.i (eM m), .i (.int j), .i (.int k), .i (.int v), .o (eM f), .i (eW x.1), .i (.int (getw x.1 j k)), .i (eL (L.set k 0))]) := by
    by_cases z1 : getw x.1 j k = 0 <;> by_cases z2 : v = 0 <;> simp [z1, z2]
  unfold atB
  rw [sSeq_ap, y1, Option.bind_some]
  dsimp only
  rw [sSeq_ap, y2, Option.bind_some]
  dsimp only
  rw [sIf_ap, t1, Option.bind_some]
  dsimp only
  unfold atS
  by_cases hz : getw x.1 j k = 0 ∨ v ≠ 0
  · have c3 : eCut (eV 5) none (some (eV 1)) [.i (eM m), .i (.int j), .i (.int k), .i (.int v), .o (eM f), .i (eW x.1), .i (.int (getw x.1 j k)), .i (eL (L.set k 0))] = some (.tup ((x.1.take j).map eL), [.i (eM m), .i (.int j), .i (.int k), .i (.int v), .o (eM f), .i (eW x.1), .i (.int (getw x.1 j k)), .i (eL (L.set k 0))]) := eCut_lo eL rfl rfl (by omega)
    have c4 : eCut (eV 5) (some (e2 opAdd (eV 1) (eC (.int 1)))) none [.i (eM m), .i (.int j), .i (.int k), .i (.int v), .o (eM f), .i (eW x.1), .i (.int (getw x.1 j k)), .i (eL (L.set k 0))] = some (.tup ((x.1.drop (j + 1)).map eL), [.i (eM m), .i (.int j), .i (.int k), .i (.int v), .o (eM f), .i (eW x.1), .i (.int (getw x.1 j k)), .i (eL (L.set k 0))]) := eCut_hi eL rfl rfl
    have p3 : opAdd (.tup ((x.1.take j).map eL)) (.tup [eL (L.set k 0)]) = some (.tup ((x.1.take j ++ [L.set k 0]).map eL)) := by
      rw [add_tup (by rw [List.length_map, List.length_take]; simp; omega), List.map_append]
      rfl
    have p4 : opAdd (.tup ((x.1.take j ++ [L.set k 0]).map eL)) (.tup ((x.1.drop (j + 1)).map eL)) = some (eW (setz x.1 j k)) := by
      rw [add_tup (by rw [List.length_map, List.length_map, List.length_append, List.length_take, List.length_drop]; simp; omega), ← List.map_append, set_cut hjx, setz, hL]
      rfl
    have r1 := q_raised (v := v) hgw.1 hgw.2 (small_of (by omega) (by omega))
    have i1 : opIx (eM m) (eW x.1) = some (rat x.2) := by rw [ix_enc encW dW, tget_some g.nd (v := x.2) hx]; rfl
    have sm : small (v ^ (getw x.1 j k).toNat) = true := by
      have hp : getw x.1 j k = 0 ∨ getw x.1 j k = 1 ∨ getw x.1 j k = 2 := by omega
      have hv' : v = 0 ∨ v = 1 ∨ v = 2 := by omega
      rcases hp with hp | hp | hp <;> rcases hv' with hv' | hv' | hv' <;> rw [hp, hv'] <;> decide
    have m1 := mul_ratI x.2 _ sm
    have w1 := q_with_less hf (setz x.1 j k) (x.2 * v ^ (getw x.1 j k).toNat)
    rw [if_pos hz, if_pos (decide_eq_true hz)]
    generalize (x.1.take j ++ [L.set k 0]).map eL = T0 at p3 p4
    generalize (x.1.take j).map eL = T1 at c3 p3
    generalize (x.1.drop (j + 1)).map eL = T2 at c4 p4
    simp [c3, p3, p4, r1, i1, m1, w1, c4]
  · rw [if_neg hz, if_neg (by simpa using hz)]
    rfl
theorem atS_length (j k : Nat) (v : Int) (f : Sums) (e : Wrd × Int) : (atS j k v f e).length ≤ f.length + 1 := by
  unfold atS
  split
  · exact length_tless
  · omega
theorem q_at_number {m : Sums} {n c : Nat} (g : GoodS m n c) (hn : n ≤ 3) (hc : c ≤ 2) {j k : Nat} (hj : j < n) (hk : k < c) {v : Int} (hv : 0 ≤ v ∧ v ≤ 2) (hl : m.length ≤ 1000) : g_at_number [eM m, .int j, .int k, .int v] = some (eM (atn m j k v)) := by
  obtain ⟨ρ', h1, f, s5, s6, s7, ⟨hm, _, _⟩, hs⟩ := for_inv (g := gN 5) (b := atB) (enc := fun e : Wrd × Int => eW e.1)
    (fun rem ρ => ∃ (f : Sums) (s5 s6 s7 : Sl), (rem.foldl (atS j k v) f = atn m j k v ∧ (∀ e ∈ rem, e ∈ m) ∧ f.length + rem.length ≤ 1000) ∧ ρ = [.i (eM m), .i (.int j), .i (.int k), .i (.int v), .o (eM f), s5, s6, s7]) m [.i (eM m), .i (.int j), .i (.int k), .i (.int v), .o (eM []), .u, .u, .u] ⟨[], _, _, _, ⟨rfl, fun e he => he, by simpa using hl⟩, rfl⟩ (fun x ys ρ ⟨f, s5, s6, s7, ⟨hm, hin, hll⟩, hρ⟩ => by
      subst hρ
      rw [List.length_cons] at hll
      have ht := at_turn (f := f) g hn hc hj hk hv (hin x List.mem_cons_self) (by omega) s6 s7
      have a5 := atS_length j k v f x
      exact ⟨[.i (eM m), .i (.int j), .i (.int k), .i (.int v), .o (eM f), .i (eW x.1), s6, s7], _, by simp, ht, _, _, _, _, ⟨hm, fun e he => hin e (List.mem_cons_of_mem _ he), by omega⟩, rfl⟩)
  have hm' : f = atn m j k v := hm
  subst hm'
  rw [hs] at h1
  have h2 : iD (eV 0) [.i (eM m), .i (.int j), .i (.int k), .i (.int v), .o (.dic []), .u, .u, .u] = some (m.map fun e => eW e.1, [.i (eM m), .i (.int j), .i (.int k), .i (.int v), .o (.dic []), .u, .u, .u]) := by
    rw [iD_ap (eV 0) _ (encM eW rat m) _ rfl]
    unfold encM
    rw [List.map_map]
    rfl
  have h1' : forL (gN 5) atB (m.map fun e => eW e.1) [.i (eM m), .i (.int j), .i (.int k), .i (.int v), .o (.dic []), .u, .u, .u] = _ := h1
  unfold g_at_number Pd.m_at_number
  refine run_rt rfl (ρ := [.i (eM m), .i (.int j), .i (.int k), .i (.int v), .i (eM (atn m j k v)), s5, s6, s7]) ?_
  show (sSeq _ _) [.i (eM m), .i (.int j), .i (.int k), .i (.int v), .u, .u, .u, .u] = _
  generalize eM m = X at *
  simp [h2, h1']
end Pm
end
section
set_option Elab.async false
set_option linter.all false
set_option maxRecDepth 100000
set_option maxHeartbeats 4000000
/-! PmFn23: rows_for. -/
namespace Pm
open Pd
theorem atn_length (m : Sums) (j k : Nat) (v : Int) : (atn m j k v).length ≤ m.length := by
  have key : ∀ (m f : Sums), (m.foldl (atS j k v) f).length ≤ f.length + m.length := by
    intro m
    induction m with
    | nil => intro f; simp
    | cons e m ih =>
      intro f
      have h1 := ih (atS j k v f e)
      have h2 := atS_length j k v f e
      rw [List.foldl_cons, List.length_cons]
      omega
  have := key m []
  unfold atn
  simpa using this
theorem eqE_M (a : Sums) : opEqE (eM a) (.dic []) = some (.bl (decide (a = []))) := by
  cases a <;> simp [eM, encM, opEqE]
abbrev rfT : M Bool := tst (e2 opEqE (eCall g_at_number [(eV 2), (eV 4), (eV 6), (eV 7)]) eDic)
abbrev rfW : S := sWhile rfT (sAsg (e2 opAdd (eV 7) (eC (.int 1))) (gN 7)) 10
theorem while_step {t : M Bool} {b : S} {n : Nat} {ρ ρ1 ρ2 : Env} (h1 : t ρ = some (true, ρ1)) (h2 : b ρ1 = some (.nx, ρ2)) : sWhile t b (n + 1) ρ = sWhile t b n ρ2 := by
  rw [sWhile, bnd_some h1]
  show bnd b _ ρ1 = _
  rw [bnd_some h2]
theorem while_end {t : M Bool} {b : S} {n : Nat} {ρ ρ1 : Env} (h1 : t ρ = some (false, ρ1)) : sWhile t b (n + 1) ρ = some (.nx, ρ1) := by
  rw [sWhile, bnd_some h1]
  rfl
theorem rf_while {m : Sums} {n c : Nat} (g : GoodS m n c) (hn : n ≤ 3) (hc : c ≤ 2) {j k : Nat} (hj : j < n) (hk : k < c) (hl : m.length ≤ 1000) (s0 s1 s3 s5 : Sl) :
    rfW [s0, s1, .i (eM m), s3, .i (.int j), s5, .i (.int k), .i (.int 0)] = some (.nx, [s0, s1, .i (eM m), s3, .i (.int j), s5, .i (.int k), .i (.int (findv m j k))]) := by
  have ht : ∀ v : Int, 0 ≤ v ∧ v ≤ 2 → rfT [s0, s1, .i (eM m), s3, .i (.int j), s5, .i (.int k), .i (.int v)] = some (decide (atn m j k v = []), [s0, s1, .i (eM m), s3, .i (.int j), s5, .i (.int k), .i (.int v)]) := by
    intro v hv
    have h1 := q_at_number g hn hc hj hk hv hl
    have h2 := eqE_M (atn m j k v)
    generalize eM (atn m j k v) = X at *
    generalize eM m = Y at *
    simp [rfT, h1, h2]
  have hb : ∀ v : Int, (sAsg (e2 opAdd (eV 7) (eC (.int 1))) (gN 7)) [s0, s1, .i (eM m), s3, .i (.int j), s5, .i (.int k), .i (.int v)] = some (.nx, [s0, s1, .i (eM m), s3, .i (.int j), s5, .i (.int k), .i (.int (v + 1))]) := fun v => by simp
  have ne := at_some g hj hk
  unfold rfW findv
  by_cases h0 : atn m j k 0 = []
  · rw [if_pos h0, while_step (by rw [ht 0 (by omega), decide_eq_true h0]) (hb 0)]
    by_cases h1 : atn m j k 1 = []
    · rw [if_pos h1, while_step (by rw [show (0 : Int) + 1 = 1 from rfl, ht 1 (by omega), decide_eq_true h1]) (hb 1)]
      have h2 : ¬ atn m j k 2 = [] := fun h2 => ne ⟨h0, h1, h2⟩
      exact while_end (by rw [show (1 : Int) + 1 = 2 from rfl, ht 2 (by omega), decide_eq_false h2])
    · rw [if_neg h1]
      exact while_end (by rw [show (0 : Int) + 1 = 1 from rfl, ht 1 (by omega), decide_eq_false h1])
  · rw [if_neg h0]
    exact while_end (by rw [ht 0 (by omega), decide_eq_false h0])
abbrev rfB : S := (sSeq (sAsg (eC (.int 0)) (gN 7))
    (sSeq rfW
    (sSeq (sAsg (eCall g_at_number [(eV 2), (eV 4), (eV 6), (eV 7)]) (gN 2))
    (sApp 5 (eV 7)))))
theorem rf_turn {m : Sums} {n c : Nat} (g : GoodS m n c) (hn : n ≤ 3) (hc : c ≤ 2) {j k : Nat} (hj : j < n) (hk : k < c) (hl : m.length ≤ 1000) (s0 s1 s3 s7 : Sl) (acc : Ltr) (ha : acc.length < 10) :
    rfB [s0, s1, .i (eM m), s3, .i (.int j), .o (eRow acc), .i (.int k), s7] = some (.nx, [s0, s1, .i (eM (nxt m j k)), s3, .i (.int j), .o (eRow (acc ++ [findv m j k])), .i (.int k), .i (.int (findv m j k))]) := by
  have hw := rf_while g hn hc hj hk hl s0 s1 s3 (.o (eRow acc))
  have h1 := q_at_number g hn hc hj hk (findv_rng m j k) hl
  have h1' : g_at_number [eM m, .int j, .int k, .int (findv m j k)] = some (eM (nxt m j k)) := h1
  unfold rfB
  generalize hW : rfW = W at *
  have hacc : acc.length < 1000000 := by omega
  generalize eM (nxt m j k) = X at *
  generalize eM m = Y at *
  simp [hw, h1', sApp, eRow, hacc]
  simp [eRow] at hw
  simp [hw, h1', hacc]
theorem rf_row {m : Sums} {n c : Nat} (g : GoodS m n c) (hn : n ≤ 3) (hc : c ≤ 2) {j : Nat} (hj : j < n) (hl : m.length ≤ 1000) (s0 s1 s3 s6 s7 : Sl) :
    ∃ s6' s7', (prow m j (List.range c)).2.length ≤ 1000 ∧ forL (gN 6) rfB ((List.range c).map fun (i : Nat) => D.int i) [s0, s1, .i (eM m), s3, .i (.int j), .o (.lst []), s6, s7] = some (.nx, [s0, s1, .i (eM (prow m j (List.range c)).2), s3, .i (.int j), .o (eRow (prow m j (List.range c)).1), s6', s7']) := by
  obtain ⟨ρ', h1, mc, acc, s6', s7', ⟨hg, hl', hp1, hp2, _, _⟩, hs⟩ := for_inv (g := gN 6) (b := rfB) (enc := fun i : Nat => D.int i)
    (fun rem ρ => ∃ (mc : Sums) (acc : Ltr) (s6' s7' : Sl), (GoodS mc n c ∧ mc.length ≤ 1000 ∧ acc ++ (prow mc j rem).1 = (prow m j (List.range c)).1 ∧ (prow mc j rem).2 = (prow m j (List.range c)).2 ∧ (∀ k ∈ rem, k < c) ∧ acc.length + rem.length ≤ 2) ∧ ρ = [s0, s1, .i (eM mc), s3, .i (.int j), .o (eRow acc), s6', s7']) (List.range c)
    [s0, s1, .i (eM m), s3, .i (.int j), .o (.lst []), s6, s7] ⟨m, [], _, _, ⟨g, hl, rfl, rfl, fun k hk => List.mem_range.mp hk, by simpa using hc⟩, rfl⟩ (fun k ys ρ ⟨mc, acc, s6, s7, ⟨hg, hl, hp1, hp2, hr, hal⟩, hρ⟩ => by
      subst hρ
      have hk := hr k List.mem_cons_self
      rw [List.length_cons] at hal
      have ht := rf_turn hg hn hc hj hk hl s0 s1 s3 s7 acc (by omega)
      have hn1 := (nxt_ok hg hj hk).1
      have hl1 := atn_length mc j k (findv mc j k)
      refine ⟨[s0, s1, .i (eM mc), s3, .i (.int j), .o (eRow acc), .i (.int k), s7], _, by simp, ht, nxt mc j k, acc ++ [findv mc j k], _, _, ⟨hn1, Nat.le_trans hl1 hl, ?_, ?_, fun i hi => hr i (List.mem_cons_of_mem _ hi), by rw [List.length_append, List.length_singleton]; omega⟩, rfl⟩
      · rw [← hp1, prow, List.append_assoc]
        rfl
      · rw [← hp2, prow])
  have e1 : acc = (prow m j (List.range c)).1 := by rw [← hp1]; simp [prow]
  have e2 : mc = (prow m j (List.range c)).2 := hp2
  refine ⟨s6', s7', by rw [← e2]; exact hl', ?_⟩
  rw [h1, hs, e1, e2]
theorem q_rows_for {m : Sums} {n c : Nat} (g : GoodS m n c) (hn : n ≤ 3) (hc : c ≤ 2) (hl : m.length ≤ 1000) : g_rows_for [.int c, .int n, eM m] = some (eRows (prows m c (List.range n)).1) := by
  obtain ⟨ρ', h1, mc, acc, s4, s5, s6, s7, ⟨hg, _, hp1, hp2, _, _⟩, hs⟩ := for_inv (g := gN 4) (b := (sSeq (sNew 5 (eLst []))
    (sSeq (sFor (iRng (eV 0)) (gN 6) rfB) (sApp 3 (eV 5))))) (enc := fun i : Nat => D.int i)
    (fun rem ρ => ∃ (mc : Sums) (acc : List Ltr) (s4 s5 s6 s7 : Sl), (GoodS mc n c ∧ mc.length ≤ 1000 ∧ acc ++ (prows mc c rem).1 = (prows m c (List.range n)).1 ∧ (prows mc c rem).2 = (prows m c (List.range n)).2 ∧ (∀ k ∈ rem, k < n) ∧ acc.length + rem.length ≤ 3) ∧ ρ = [.i (.int c), .i (.int n), .i (eM mc), .o (eRows acc), s4, s5, s6, s7]) (List.range n)
    [.i (.int c), .i (.int n), .i (eM m), .o (.lst []), .u, .u, .u, .u] ⟨m, [], _, _, _, _, ⟨g, hl, rfl, rfl, fun k hk => List.mem_range.mp hk, by simpa using hn⟩, rfl⟩ (fun j ys ρ ⟨mc, acc, s4, s5, s6, s7, ⟨hg, hl, hp1, hp2, hr, hal⟩, hρ⟩ => by
      subst hρ
      have hj := hr j List.mem_cons_self
      rw [List.length_cons] at hal
      obtain ⟨s6', s7', hl1, ht⟩ := rf_row hg hn hc hj hl (.i (.int c)) (.i (.int n)) (.o (eRows acc)) s6 s7
      have hn1 := (prow_ok hg hj hc).1
      have hal' : acc.length < 1000000 := by omega
      have hi : iRng (eV 0) [.i (.int c), .i (.int n), .i (eM mc), .o (eRows acc), .i (.int j), .o (.lst []), s6, s7] = some ((List.range c).map fun (i : Nat) => D.int i, [.i (.int c), .i (.int n), .i (eM mc), .o (eRows acc), .i (.int j), .o (.lst []), s6, s7]) := iRng_ap (eV 0) _ c _ rfl (by omega) (by omega)
      refine ⟨[.i (.int c), .i (.int n), .i (eM mc), .o (eRows acc), .i (.int j), s5, s6, s7], [.i (.int c), .i (.int n), .i (eM (prow mc j (List.range c)).2), .o (eRows (acc ++ [(prow mc j (List.range c)).1])), .i (.int j), .i (eRow (prow mc j (List.range c)).1), s6', s7'], by simp, ?_, (prow mc j (List.range c)).2, acc ++ [(prow mc j (List.range c)).1], _, _, _, _, ⟨hn1, hl1, ?_, ?_, fun i hi => hr i (List.mem_cons_of_mem _ hi), by rw [List.length_append, List.length_singleton]; omega⟩, rfl⟩
      · generalize eM (prow mc j (List.range c)).2 = X at *
        generalize (prow mc j (List.range c)).1 = Z at *
        generalize eM mc = Y at *
        generalize hB : rfB = B at *
        unfold eRows at ht hi ⊢
        simp [hi, ht, sApp, hal']
      · rw [← hp1, prows, List.append_assoc]
        rfl
      · rw [← hp2, prows])
  have e1 : acc = (prows m c (List.range n)).1 := by rw [← hp1]; simp [prows]
  rw [hs, e1] at h1
  have hi : iRng (eV 1) [.i (.int c), .i (.int n), .i (eM m), .o (.lst []), .u, .u, .u, .u] = some ((List.range n).map fun (i : Nat) => D.int i, [.i (.int c), .i (.int n), .i (eM m), .o (.lst []), .u, .u, .u, .u]) := iRng_ap (eV 1) _ n _ rfl (by omega) (by omega)
  unfold g_rows_for Pd.m_rows_for
  refine run_rt rfl (ρ := [.i (.int c), .i (.int n), .i (eM mc), .i (eRows (prows m c (List.range n)).1), s4, s5, s6, s7]) ?_
  show (sSeq (sNew 3 (eLst [])) (sSeq (sFor (iRng (eV 1)) (gN 4) (sSeq (sNew 5 (eLst [])) (sSeq (sFor (iRng (eV 0)) (gN 6) rfB) (sApp 3 (eV 5))))) (sRet (eV 3)))) [.i (.int c), .i (.int n), .i (eM m), .u, .u, .u, .u, .u] = _
  generalize eM m = X at *
  generalize eM mc = Y at *
  generalize hB : rfB = B at *
  simp [hi, h1]
end Pm
end
section
set_option Elab.async false
set_option linter.all false
set_option maxRecDepth 100000
set_option maxHeartbeats 4000000
/-! PmFn24: lots sorted; arrangements; are_alike. -/
namespace Pm
open Pd
theorem lts_int : ∀ a b : Ltr, lts (a.map D.int) (b.map D.int) = ltL a b
  | [], [] => by simp [lts, ltL]
  | [], _ :: _ => by simp [lts, ltL]
  | _ :: _, [] => by simp [lts, ltL]
  | a :: as, b :: bs => by
    rw [List.map_cons, List.map_cons, lts, int_eq, lts_int as bs, ltL]
    by_cases h : a = b
    · simp [h]
    · simp [h, lt]
theorem lt_eL (a b : Ltr) : lt (eL a) (eL b) = ltL a b := by
  unfold eL
  rw [lt, lts_int]
theorem sort_W (w : Wrd) (h : w.length ≤ 2) : sortD (w.map eL) = (srt w).map eL := by
  match w, h with
  | [], _ => simp [sortD, srt]
  | [a], _ => simp [sortD, srt]
  | [a, b], _ =>
    unfold sortD
    rw [List.map_cons, List.map_cons, List.map_nil, List.mergeSort]
    simp [List.MergeSort.Internal.splitInTwo, List.mergeSort, List.merge, lt_eL, srt2]
    cases ltL b a <;> simp
theorem srt_ok {c : Nat} (w : Wrd) (h : ∀ l ∈ w, l.length = c) : srtOk (w.map eL) = true := by
  unfold srtOk
  cases c with
  | zero =>
    have : (w.map eL).all emptyT = true := by
      rw [List.all_eq_true]
      intro x hx
      obtain ⟨l, hl, rfl⟩ := List.mem_map.mp hx
      have := h l hl
      match l, this with
      | [], _ => rfl
    rw [this]
    simp
  | succ n =>
    have : (w.map eL).all fullT = true := by
      rw [List.all_eq_true]
      intro x hx
      obtain ⟨l, hl, rfl⟩ := List.mem_map.mp hx
      have := h l hl
      match l, this with
      | _ :: _, _ => rfl
    rw [this]
    simp
theorem sorted_W {c : Nat} {w : Wrd} (h : w.length ≤ 2) (hc : ∀ l ∈ w, l.length = c) : opSorted (eW w) = some (.lst ((srt w).map eL)) := by
  unfold opSorted
  show (match seq? (.tup (w.map eL)) with | some ds => _ | none => none) = _
  show (if allAlk (w.map eL) ∧ srtOk (w.map eL) ∧ (w.map eL).length ≤ 1000 ∧ depths (w.map eL) ≤ 8 then some (D.lst (sortD (w.map eL))) else none) = _
  rw [if_pos ⟨allAlk_map alkL w, srt_ok w hc, by rw [List.length_map]; omega, Nat.le_trans (depths_map depL w) (by decide)⟩, sort_W w h]
theorem srt_length (w : Wrd) : (srt w).length = w.length := by
  match w with
  | [] => rfl
  | [_] => rfl
  | [a, b] => rw [srt2]; cases ltL b a <;> rfl
  | _ :: _ :: _ :: _ => rfl
theorem am0 : g_arrangements_many [.tup []] = some (.int 1) := rfl
theorem eq_non (a : Ltr) : opEq (eL a) .non = some (.bl false) := by
  have h1 := encL.fl a
  have h2 := depL a
  unfold opEq eL at *
  dsimp only
  rw [if_pos ⟨h1, by simp [flat], by omega, by simp [depth]⟩]
  simp [eqv]
theorem eq_eL (a b : Ltr) : opEq (eL a) (eL b) = some (.bl (decide (a = b))) := by
  have h1 := encL.fl a
  have h2 := depL a
  have h3 := encL.fl b
  have h4 := depL b
  have h5 := encL.eq a b
  unfold opEq eL at *
  dsimp only
  rw [if_pos ⟨h1, h3, by omega, by omega⟩, h5]
theorem am1 (a : Ltr) : g_arrangements_many [.tup [eL a]] = some (.int 1) := by
  have h1 := eq_non a
  generalize eL a = A at *
  have h2 : iEnum (eV 0) [.i (.tup [A]), .i (.int 1), .i .non, .i (.int 0), .u, .u] = some ([D.tup [.int 0, A]], [.i (.tup [A]), .i (.int 1), .i .non, .i (.int 0), .u, .u]) := rfl
  have h3 : opDiv (.int 1) (.int 1) = some (.int 1) := rfl
  have h4 : opMul (.int 1) (.int 1) = some (.int 1) := rfl
  simp [g_arrangements_many, m_arrangements_many, run, envOf, h2, forL_cons, h1, sPar, h3, h4]
theorem am2 (a b : Ltr) : g_arrangements_many [.tup [eL a, eL b]] = some (.int (if a = b then 1 else 2)) := by
  have h1 := eq_non a
  have h5 := eq_eL b a
  generalize eL a = A at *
  generalize eL b = B at *
  have h2 : iEnum (eV 0) [.i (.tup [A, B]), .i (.int 1), .i .non, .i (.int 0), .u, .u] = some ([D.tup [.int 0, A], D.tup [.int 1, B]], [.i (.tup [A, B]), .i (.int 1), .i .non, .i (.int 0), .u, .u]) := rfl
  have h3 : opDiv (.int 1) (.int 1) = some (.int 1) := rfl
  have h4 : opMul (.int 1) (.int 1) = some (.int 1) := rfl
  have h6 : opMul (.int 1) (.int 2) = some (.int 2) := rfl
  have h7 : opDiv (.int 2) (.int 1) = some (.int 2) := rfl
  have h8 : opDiv (.int 2) (.int 2) = some (.int 1) := rfl
  by_cases z : a = b
  · have z' : b = a := z.symm
    simp [g_arrangements_many, m_arrangements_many, run, envOf, h2, forL_cons, h1, sPar, h3, h4, h5, z, h6, h7, h8]
  · have z' : ¬ b = a := fun y => z y.symm
    simp [g_arrangements_many, m_arrangements_many, run, envOf, h2, forL_cons, h1, sPar, h3, h4, h5, z, z', h6, h7, h8]
theorem am_ways {w : Wrd} (h : w.length ≤ 2) : (g_arrangements_many [eW w]).bind (fun d => opMul d (.int ((w.length : Int) + 1))) = some (.int (ways w).length) := by
  match w, h with
  | [], _ => rfl
  | [a], _ =>
    show (g_arrangements_many [.tup [eL a]]).bind _ = _
    rw [am1]
    rfl
  | [a, b], _ =>
    show (g_arrangements_many [.tup [eL a, eL b]]).bind _ = _
    rw [am2]
    by_cases z : a = b
    · rw [if_pos z]
      simp [ways, z]
      rfl
    · rw [if_neg z]
      simp [ways, z]
      rfl
theorem q_are_alike {L : List Int} {n : Nat} (hL : L.length ≤ 1000) {v : Int} (hv : L[0]? = some v) : g_are_alike [eLs L, .int n] = some (.bl (decide (L.length = n ∧ ∀ x ∈ L, x = v))) := by
  have h1 : a1 opLen [eLs L] = some (.int L.length) := by unfold eLs; rw [len_lst, List.length_map]
  have h2 : opIx (eLs L) (.int 0) = some (rat v) := eLs_ix (i := 0) hv
  have h3 : eComp [2] (iL (eV 0)) (gN 2) tYes (e2 opEqR (eV 2) (e2 opIx (eV 0) (eC (.int 0)))) [.i (eLs L), .i (.int n), .u] = some (.lst (L.map fun x => D.bl (decide (x = v))), [.i (eLs L), .i (.int n), .u]) :=
    comp_val (enc := rat) L rfl (by omega) rfl rfl fun x _ => ⟨[.i (eLs L), .i (.int n), .i (rat x)], by simp [turn, h2, eq_rat], rfl⟩
  have h4 : a1 opAll [.lst (L.map fun x => D.bl (decide (x = v)))] = some (.bl (decide (∀ x ∈ L, x = v))) := by
    have : (L.map fun x => D.bl (decide (x = v))).mapM bool? = some (L.map fun x => decide (x = v)) := by
      clear hv h1 h2 h3 hL
      induction L with
      | nil => rfl
      | cons a l ih => rw [List.map_cons, List.mapM_cons, ih]; rfl
    show Option.map (fun bs => D.bl (bs.all id)) ((L.map fun x => D.bl (decide (x = v))).mapM bool?) = _
    rw [this, Option.map_some, List.all_map]
    congr 2
    rw [Bool.eq_iff_iff]
    simp
  by_cases z : L.length = n
  · have z' : (L.length : Int) = n := by omega
    simp [g_are_alike, m_are_alike, run, envOf, h1, z', h3, h4, z]
  · have z' : ¬ (L.length : Int) = n := by omega
    simp [g_are_alike, m_are_alike, run, envOf, h1, z', z]
end Pm
end
section
set_option Elab.async false
set_option linter.all false
set_option maxRecDepth 100000
set_option maxHeartbeats 4000000
/-! PmFn25: grouped, barring_at. -/
namespace Pm
open Pd
abbrev Key := Ltr × Wrd
def eK (k : Key) : D := .tup [eL k.1, eW k.2]
theorem encKK : EncK eK where
  eq := fun a b => by
    obtain ⟨a1, a2⟩ := a
    obtain ⟨b1, b2⟩ := b
    simp only [eK, eqv, eqvs, encW.eq, encL.eq, Prod.mk.injEq]
    by_cases h1 : a1 = b1 <;> by_cases h2 : a2 = b2 <;> simp [h1, h2]
  key := fun a => by simp only [eK, isKey, isKeys, encW.key, encL.key]; rfl
  fl := fun a => by simp only [eK, flat, flats, encW.fl, encL.fl]; rfl
  tup := fun a => ⟨_, rfl⟩
theorem depK (k : Key) : depth (eK k) ≤ 8 := by
  simp only [eK, depth, depths]
  have h1 := depL k.1
  have h2 := depW k.2
  omega
abbrev Grps := List (Key × List Int)
def tgrp (m : Grps) (k : Key) (v : Int) : Grps := if thas m k then m.map fun p => if p.1 = k then (p.1, p.2 ++ [v]) else p else m ++ [(k, [v])]
theorem grp_enc (k : Key) (v : Int) (m : Grps) : grp (encM eK eLs m) (eK k) (rat v) = encM eK eLs (tgrp m k v) := by
  unfold grp tgrp
  rw [dhas_enc encKK]
  cases thas m k with
  | true =>
    rw [if_pos rfl, if_pos rfl]
    unfold encM
    rw [List.map_map, List.map_map]
    refine List.map_congr_left fun p _ => ?_
    simp only [Function.comp]
    rw [encKK.eq]
    by_cases z : p.1 = k
    · simp [z, eLs]
    · simp [z]
  | false =>
    rw [if_neg Bool.false_ne_true, if_neg Bool.false_ne_true]
    unfold encM
    rw [List.map_append]
    rfl
structure GInv (Q : List (Key × Int)) (m : Grps) : Prop where
  nd : (keys m).Nodup
  ks : ∀ k, k ∈ keys m ↔ k ∈ Q.map (·.1)
  vs : ∀ p ∈ m, p.2 = (Q.filter fun q => decide (q.1 = p.1)).map (·.2)
theorem keys_tgrp {m : Grps} {k : Key} {v : Int} : keys (tgrp m k v) = if thas m k then keys m else keys m ++ [k] := by
  unfold tgrp keys
  split
  · rw [List.map_map]
    refine List.map_congr_left fun p _ => ?_
    simp only [Function.comp]
    split <;> rfl
  · rw [List.map_append]
    rfl
theorem ginv_step {Q : List (Key × Int)} {m : Grps} (h : GInv Q m) (k : Key) (v : Int) : GInv (Q ++ [(k, v)]) (tgrp m k v) := by
  have hf : ∀ k' : Key, ((Q ++ [(k, v)]).filter fun q => decide (q.1 = k')).map (·.2) = (Q.filter fun q => decide (q.1 = k')).map (·.2) ++ if k = k' then [v] else [] := by
    intro k'
    rw [List.filter_append, List.map_append]
    congr 1
    by_cases z : k = k' <;> simp [z]
  refine ⟨?_, fun k' => ?_, fun p hp => ?_⟩
  · rw [keys_tgrp]
    split
    · exact h.nd
    · rename_i hh
      rw [List.nodup_append]
      refine ⟨h.nd, by simp, fun a ha b hb => ?_⟩
      rw [List.mem_singleton.mp hb]
      rintro rfl
      exact hh (thas_iff.mpr ha)
  · rw [keys_tgrp, List.map_append, List.mem_append]
    split
    · rename_i hh
      rw [h.ks]
      constructor
      · exact .inl
      · rintro (z | z)
        · exact z
        · have : k' = k := by simpa using z
          rw [this, ← h.ks]
          exact thas_iff.mp hh
    · rw [List.mem_append, h.ks]
      simp
  · rw [hf]
    unfold tgrp at hp
    split at hp
    · obtain ⟨q, hq, rfl⟩ := List.mem_map.mp hp
      split
      · rename_i z
        rw [h.vs q hq, if_pos z.symm]
      · rename_i z
        rw [if_neg (fun y => z y.symm), List.append_nil]
        exact h.vs q hq
    · rename_i hh
      rcases List.mem_append.mp hp with z | z
      · have : p.1 ≠ k := fun y => hh (thas_iff.mpr (by rw [← y]; exact List.mem_map.mpr ⟨p, z, rfl⟩))
        rw [if_neg (fun y => this y.symm), List.append_nil]
        exact h.vs p z
      · rw [List.mem_singleton.mp z]
        dsimp only
        rw [if_pos rfl]
        have : (Q.filter fun q => decide (q.1 = k)) = [] := by
          rw [List.filter_eq_nil_iff]
          intro q hq y
          have : q.1 = k := of_decide_eq_true y
          exact hh (thas_iff.mpr ((h.ks k).mpr (List.mem_map.mpr ⟨q, hq, this⟩)))
        rw [this]
        rfl
theorem ginv_len {Q : List (Key × Int)} {m : Grps} (h : GInv Q m) : ∀ p ∈ m, p.2.length ≤ Q.length := by
  intro p hp
  rw [h.vs p hp, List.length_map]
  exact List.length_filter_le _ _
theorem ginv_len2 {Q : List (Key × Int)} {m : Grps} (h : GInv Q m) : m.length ≤ Q.length := by
  have := nodup_len h.nd (b := Q.map (·.1)) fun k hk => (h.ks k).mp hk
  rw [List.length_map, List.length_map] at this
  exact this
def eKV (q : Key × Int) : D := .tup [eK q.1, rat q.2]
theorem q_grouped (A : List (Key × Int)) (hA : A.length ≤ 400) : ∃ m : Grps, GInv A m ∧ g_grouped [.lst (A.map eKV)] = some (.dic (encM eK eLs m)) := by
  obtain ⟨ρ', h1, m, Q, s2, s3, ⟨hQ, hi⟩, hs⟩ := for_inv (g := gT [(gN 2), (gN 3)]) (b := sGrp 1 (eV 2) (eV 3)) (enc := eKV)
    (fun rem ρ => ∃ (m : Grps) (Q : List (Key × Int)) (s2 s3 : Sl), (Q ++ rem = A ∧ GInv Q m) ∧ ρ = [.i (.lst (A.map eKV)), .o (.dic (encM eK eLs m)), s2, s3]) A [.i (.lst (A.map eKV)), .o (.dic []), .u, .u]
    ⟨[], [], _, _, ⟨rfl, ⟨List.nodup_nil, fun k => by simp, fun p hp => (by cases hp)⟩⟩, rfl⟩ (fun x ys ρ ⟨m, Q, s2, s3, ⟨hQ, hi⟩, hρ⟩ => by
      subst hρ
      have hQl : Q.length ≤ 400 := by rw [← hQ, List.length_append] at hA; omega
      have hml := ginv_len2 hi
      have hk1 : kOk (eK x.1) = true := encKK.k x.1
      have hk2 := depK x.1
      have hg : grpLen (encM eK eLs m) (eK x.1) < 1000000 := by
        unfold grpLen
        rw [dget_enc encKK]
        cases e : tget m x.1 with
        | none => simp
        | some L =>
          have : L.length ≤ Q.length := ginv_len hi _ (tget_mem e)
          simp [eLs]
          omega
      have hl : (encM eK eLs m).length < 1000000 := by unfold encM; rw [List.length_map]; omega
      have he := grp_enc x.1 x.2 m
      refine ⟨[.i (.lst (A.map eKV)), .o (.dic (encM eK eLs m)), .i (eK x.1), .i (rat x.2)], [.i (.lst (A.map eKV)), .o (.dic (encM eK eLs (tgrp m x.1 x.2))), .i (eK x.1), .i (rat x.2)], by simp [eKV], ?_, _, Q ++ [x], _, _, ⟨by rw [← hQ]; simp, ginv_step hi x.1 x.2⟩, rfl⟩
      rw [← he]
      generalize encM eK eLs m = X at *
      simp [sGrp, hk1, hk2, hg, hl])
  have hQ' : Q = A := by simpa using hQ
  subst hQ'
  refine ⟨m, hi, ?_⟩
  rw [hs] at h1
  have h2 : iL (eV 0) [.i (.lst (Q.map eKV)), .o (.dic []), .u, .u] = some (Q.map eKV, [.i (.lst (Q.map eKV)), .o (.dic []), .u, .u]) := rfl
  simp [g_grouped, m_grouped, run, envOf, h2, h1]
/-- a key that bars -/
def bad (F : Prt) (k : Key) : Bool := decide (∃ p ∈ F, key p.1 = k ∧ ¬ alike F p.1)
theorem bad_of {F : Prt} (ok : OkP F) {t : Trm} {v : Int} (h : (t, v) ∈ F) : bad F (key t) = !decide (alike F t) := by
  unfold bad
  by_cases z : alike F t
  · have : ¬ ∃ p ∈ F, key p.1 = key t ∧ ¬ alike F p.1 := by
      rintro ⟨p, hp, hk, hn⟩
      refine hn fun u hu => ?_
      rw [hk] at hu
      have hpt : p.1 ∈ wterms (key t) := (mem_wterms (ok.short _ h)).mpr ⟨ok.short p hp, hk⟩
      rw [z u hu, z p.1 hpt]
    simp [this, z]
  · have : ∃ p ∈ F, key p.1 = key t ∧ ¬ alike F p.1 := ⟨(t, v), h, rfl, z⟩
    simp only [this, z]
    rfl
theorem key_len {t : Trm} : (key t).2.length = len t := by
  unfold key len
  rw [srt_length, List.length_append]
theorem wterms_len (k : Key) : (wterms k).length = (ways k.2).length := List.length_map ..
theorem alike_dec {F : Prt} (ok : OkP F) (nz : ∀ p ∈ F, p.2 ≠ 0) {k : Key} {L : List Int} (hL : L = ((F.map fun p => (key p.1, p.2)).filter fun q => decide (q.1 = k)).map (·.2)) (hk : ∃ p ∈ F, key p.1 = k) :
    ∃ v, L[0]? = some v ∧ decide (L.length = (ways k.2).length ∧ ∀ x ∈ L, x = v) = !bad F k := by
  have e1 : L = (grpT F k).map (·.2) := by
    rw [hL, List.filter_map, List.map_map]
    rfl
  obtain ⟨p, hp, hpk⟩ := hk
  have hpg : p ∈ grpT F k := List.mem_filter.mpr ⟨hp, decide_eq_true hpk⟩
  cases hG : grpT F k with
  | nil => rw [hG] at hpg; cases hpg
  | cons q r =>
    have hq : q ∈ grpT F k := by rw [hG]; exact List.mem_cons_self
    obtain ⟨hqF, hqk⟩ := List.mem_filter.mp hq
    have hqk : key q.1 = k := of_decide_eq_true hqk
    refine ⟨q.2, by rw [e1, hG]; rfl, ?_⟩
    have h1 := grp_alike ok nz (t := q.1) (v := q.2) hqF
    have h2 := bad_of ok (t := q.1) (v := q.2) hqF
    rw [hqk] at h1 h2
    rw [h2, Bool.not_not, decide_eq_decide, ← h1, e1, List.length_map, wterms_len, List.forall_mem_map]
end Pm
end
section
set_option Elab.async false
set_option linter.all false
set_option maxRecDepth 100000
set_option maxHeartbeats 4000000
/-! PmFn26: barring_at, is_free_at. -/
namespace Pm
open Pd
abbrev baB : S := (sSeq (sAsg (e2 opIx (eV 4) (eC (.int 1))) (gN 5))
    (sIf (tNot (tst (eCall g_are_alike [(e2 opIx (eV 2) (eV 4)), (e2 opMul (eCall g_arrangements_many [(eV 5)]) (e2 opAdd (eCall (a1 opLen) [(eV 5)]) (eC (.int 1))))]))) (sApp 3 (eV 4)) sNx))
theorem q_key {c : Nat} {t : Trm} (h : TrmOk c t) : ∃ d, opAdd (eW t.1) (eW t.2.2) = some d ∧ opSorted d = some (.lst ((srt (t.1 ++ t.2.2)).map eL)) := by
  have hs := h.s
  unfold len at hs
  refine ⟨eW (t.1 ++ t.2.2), ?_, sorted_W (c := c) (by rw [List.length_append]; exact hs) fun l hl => ?_⟩
  · unfold eW
    rw [add_tup (by rw [List.length_map, List.length_map]; omega), List.map_append]
  · rcases List.mem_append.mp hl with z | z
    · exact (h.l l z).len
    · exact (h.r l z).len
theorem ba_comp {c : Nat} {F : Prt} (ht : ∀ p ∈ F, TrmOk c p.1) (hl : F.length ≤ 400) :
    eComp [6] (iL (eV 0)) (gN 6) tYes (eTup [(eTup [(e2 opIx (e2 opIx (eV 6) (eC (.int 0))) (eC (.int 1))), (eCall (a1 opTuple) [(eCall (a1 opSorted) [(e2 opAdd (e2 opIx (e2 opIx (eV 6) (eC (.int 0))) (eC (.int 0))) (e2 opIx (e2 opIx (eV 6) (eC (.int 0))) (eC (.int 2))))])])]), (e2 opIx (eV 6) (eC (.int 1)))]) [.i (.lst (F.map eFp)), .u, .u, .u, .u, .u, .u] =
      some (.lst ((F.map fun p => (key p.1, p.2)).map eKV), [.i (.lst (F.map eFp)), .u, .u, .u, .u, .u, .u]) := by
  rw [List.map_map]
  refine comp_val (ρ1 := [.i (.lst (F.map eFp)), .u, .u, .u, .u, .u, .u]) (enc := eFp) F rfl (by omega) rfl rfl fun p hp => ⟨[.i (.lst (F.map eFp)), .u, .u, .u, .u, .u, .i (eFp p)], ?_, rfl⟩
  obtain ⟨d, h1, h2⟩ := q_key (ht p hp)
  have i0 : opIx (eFp p) (.int 0) = some (eT p.1) := rfl
  have i1 : opIx (eFp p) (.int 1) = some (rat p.2) := rfl
  have j0 : opIx (eT p.1) (.int 0) = some (eW p.1.1) := rfl
  have j1 : opIx (eT p.1) (.int 1) = some (eL p.1.2.1) := rfl
  have j2 : opIx (eT p.1) (.int 2) = some (eW p.1.2.2) := rfl
  have h3 : a1 opSorted [d] = some (.lst ((srt (p.1.1 ++ p.1.2.2)).map eL)) := h2
  have h4 : D.tup ((srt (p.1.1 ++ p.1.2.2)).map eL) = eW (srt (p.1.1 ++ p.1.2.2)) := rfl
  generalize eFp p = X at *
  simp [turn, i0, i1, j0, j1, j2, h1, h3, tup_lst, eKV, eK, key, h4]
theorem q_barring_at {c : Nat} {F : Prt} (ok : OkP F) (nz : ∀ p ∈ F, p.2 ≠ 0) (ht : ∀ p ∈ F, TrmOk c p.1) (hl : F.length ≤ 400) :
    ∃ B : List Key, (∀ k, k ∈ B ↔ ∃ p ∈ F, key p.1 = k ∧ ¬ alike F p.1) ∧ B.length ≤ 400 ∧ g_barring_at [.lst (F.map eFp)] = some (.lst (B.map eK)) := by
  have h1 := ba_comp ht hl
  obtain ⟨m, hm, hg⟩ := q_grouped (F.map fun p => (key p.1, p.2)) (by rw [List.length_map]; exact hl)
  have hmem : ∀ k, k ∈ keys m ↔ ∃ p ∈ F, key p.1 = k := fun k => by
    rw [hm.ks, List.map_map, List.mem_map]
    rfl
  have hml : m.length ≤ 400 := by
    have := ginv_len2 hm
    rw [List.length_map] at this
    omega
  refine ⟨(keys m).filter (bad F), fun k => ?_, Nat.le_trans (List.length_filter_le _ _) (by rw [List.length_map]; exact hml), ?_⟩
  · rw [List.mem_filter, hmem, bad, decide_eq_true_iff]
    constructor
    · exact fun h => h.2
    · exact fun h => ⟨by obtain ⟨p, h1, h2, _⟩ := h; exact ⟨p, h1, h2⟩, h⟩
  generalize hA : D.lst ((F.map fun p => (key p.1, p.2)).map eKV) = A at h1 hg
  generalize hR : D.lst (F.map eFp) = R at h1
  have i2 : ∀ p ∈ m, opIx (.dic (encM eK eLs m)) (eK p.1) = some (eLs p.2) := fun p hp => by
    rw [ix_enc encKK depK, tget_some hm.nd (v := p.2) hp]
    rfl
  obtain ⟨ρ', h2, acc, s4, s5, ⟨ha, _, _⟩, hs⟩ := for_inv (g := gN 4) (b := baB) (enc := fun p : Key × List Int => eK p.1)
    (fun rem ρ => ∃ (acc : List Key) (s4 s5 : Sl), (acc ++ (keys rem).filter (bad F) = (keys m).filter (bad F) ∧ (∀ p ∈ rem, p ∈ m) ∧ acc.length + rem.length ≤ 400) ∧ ρ = [.i R, .i A, .i (.dic (encM eK eLs m)), .o (.lst (acc.map eK)), s4, s5, .u]) m [.i R, .i A, .i (.dic (encM eK eLs m)), .o (.lst []), .u, .u, .u]
    ⟨[], _, _, ⟨rfl, fun p hp => hp, by simpa using hml⟩, rfl⟩ (fun x ys ρ ⟨acc, s4, s5, ⟨ha, hin, hal⟩, hρ⟩ => by
      subst hρ
      rw [List.length_cons] at hal
      have hx := hin x List.mem_cons_self
      obtain ⟨p0, hp0, hk0⟩ := (hmem x.1).mp (List.mem_map.mpr ⟨x, hx, rfl⟩)
      obtain ⟨v, hv1, hv2⟩ := alike_dec ok nz (hm.vs x hx) ⟨p0, hp0, hk0⟩
      have hlen : x.1.2.length ≤ 2 := by rw [← hk0, key_len]; exact ok.short p0 hp0
      have hLl : x.2.length ≤ 1000 := by
        have := ginv_len hm x hx
        rw [List.length_map] at this
        omega
      have a2 := q_are_alike (n := (ways x.1.2).length) hLl hv1
      rw [hv2] at a2
      have a1 := am_ways hlen
      have j1 : opIx (eK x.1) (.int 1) = some (eW x.1.2) := rfl
      have j2 : Pd.a1 opLen [eW x.1.2] = some (.int x.1.2.length) := by unfold eW; rw [len_tup, List.length_map]
      have j3 := i2 x hx
      have hal' : acc.length < 1000000 := by omega
      obtain ⟨d, d1, d2⟩ := Option.bind_eq_some_iff.mp a1
      generalize hX : encM eK eLs m = X at *
      have ha' : acc ++ (if bad F x.1 then [x.1] else []) ++ (keys ys).filter (bad F) = (keys m).filter (bad F) := by
        rw [← ha]
        show _ = acc ++ (x.1 :: keys ys).filter (bad F)
        rw [List.filter_cons]
        cases bad F x.1 <;> simp
      refine ⟨[.i R, .i A, .i (.dic X), .o (.lst (acc.map eK)), .i (eK x.1), s5, .u], [.i R, .i A, .i (.dic X), .o (.lst ((acc ++ (if bad F x.1 then [x.1] else [])).map eK)), .i (eK x.1), .i (eW x.1.2), .u], by simp, ?_, _, _, _, ⟨ha', fun p hp => hin p (List.mem_cons_of_mem _ hp), by
        rw [List.length_append]
        cases bad F x.1 <;> simp <;> omega⟩, rfl⟩
      cases hb : bad F x.1 with
      | true =>
        rw [hb] at a2
        simp [j1, j2, j3, d1, d2, a2, sApp, hal']
      | false =>
        rw [hb] at a2
        simp [j1, j2, j3, d1, d2, a2])
  have ha' : acc = (keys m).filter (bad F) := by simpa using ha
  subst ha'
  rw [hs] at h2
  have h3 : iD (eV 2) [.i R, .i A, .i (.dic (encM eK eLs m)), .o (.lst []), .u, .u, .u] = some (m.map fun p => eK p.1, [.i R, .i A, .i (.dic (encM eK eLs m)), .o (.lst []), .u, .u, .u]) := by
    rw [iD_ap (eV 2) _ (encM eK eLs m) _ rfl]
    unfold encM
    rw [List.map_map]
    rfl
  have h2' : forL (gN 4) baB (m.map fun p => eK p.1) [.i R, .i A, .i (.dic (encM eK eLs m)), .o (.lst []), .u, .u, .u] = _ := h2
  unfold g_barring_at Pd.m_barring_at
  refine run_rt rfl (ρ := [.i R, .i A, .i (.dic (encM eK eLs m)), .i (.lst (((keys m).filter (bad F)).map eK)), s4, s5, .u]) ?_
  show (sSeq (sAsg _ _) (sSeq _ (sSeq _ (sSeq (sFor (iD (eV 2)) (gN 4) baB) (sRet (eV 3)))))) [.i R, .u, .u, .u, .u, .u, .u] = _
  generalize encM eK eLs m = X at *
  generalize hB : baB = BB at *
  rw [sSeq_ap, sAsg_ap, h1, Option.bind_some]
  simp [hg, h3, h2']
theorem eq_lsts {α : Type} {e : α → D} (hf : ∀ a, flat (e a) = true) (hd : ∀ a, depth (e a) ≤ 7) (B : List α) : opEq (.lst (B.map e)) (.lst []) = some (.bl (decide (B = []))) := by
  have h1 : flat (.lst (B.map e)) = true := by rw [flat]; exact flats_map hf B
  have h2 : depth (.lst (B.map e)) ≤ 8 := by
    rw [depth]
    have := depths_map hd B
    omega
  unfold opEq
  dsimp only
  rw [if_pos ⟨h1, by simp [flat, flats], h2, by simp [depth, depths]⟩]
  cases B <;> simp [eqv, eqvs]
theorem depK7 (k : Key) : depth (eK k) ≤ 7 := by
  simp only [eK, depth, depths]
  have h1 := depL k.1
  have h2 := depW k.2
  omega
theorem q_is_free_at {c : Nat} {F : Prt} {B : List Key} (hB : g_barring_at [.lst (F.map eFp)] = some (.lst (B.map eK))) : g_is_free_at [eF c F] = some (.bl (decide (B = []))) := by
  have h1 : g_want_form [eF c F] = some (eF c F) := rfl
  have h2 := eF_parts c F
  have h3 := eq_lsts encKK.fl depK7 B
  simp [g_is_free_at, m_is_free_at, run, envOf, h1, h2, hB, h3]
end Pm
end
section
set_option Elab.async false
set_option linter.all false
set_option maxRecDepth 100000
set_option maxHeartbeats 4000000
/-! PmFn27: exchange_at_of: what it meets. -/
namespace Pm
open Pd
/-- a loop that may return -/
theorem forL_find {α : Type} {g : T} {b : S} {enc : α → D} (J : Env → Prop) (Q : α → Prop) (R : D → Prop) : ∀ (xs : List α), (∀ x ∈ xs, ∀ ρ, J ρ → ∃ ρ1, g (enc x) ρ = some ((), ρ1) ∧ ((∃ ρ2, b ρ1 = some (.nx, ρ2) ∧ J ρ2 ∧ ¬ Q x) ∨ (∃ ρ2 r, b ρ1 = some (.rt r, ρ2) ∧ R r))) →
    ∀ ρ, J ρ → (∃ ρ', forL g b (xs.map enc) ρ = some (.nx, ρ') ∧ J ρ' ∧ ∀ x ∈ xs, ¬ Q x) ∨ (∃ ρ' r, forL g b (xs.map enc) ρ = some (.rt r, ρ') ∧ R r)
  | [], _, ρ, hJ => .inl ⟨ρ, rfl, hJ, fun x hx => (by cases hx)⟩
  | x :: xs, hs, ρ, hJ => by
    obtain ⟨ρ1, h1, h2⟩ := hs x List.mem_cons_self ρ hJ
    rw [List.map_cons, forL_cons, h1, Option.bind_some]
    rcases h2 with ⟨ρ2, h3, h4, h5⟩ | ⟨ρ2, r, h3, h4⟩
    · rw [h3, Option.bind_some]
      rcases forL_find J Q R xs (fun y hy => hs y (List.mem_cons_of_mem _ hy)) ρ2 h4 with ⟨ρ', k1, k2, k3⟩ | ⟨ρ', r, k1, k2⟩
      · exact .inl ⟨ρ', k1, k2, fun y hy => by
          rcases List.mem_cons.mp hy with z | z
          · rw [z]; exact h5
          · exact k3 y z⟩
      · exact .inr ⟨ρ', r, k1, k2⟩
    · rw [h3, Option.bind_some]
      exact .inr ⟨ρ2, r, rfl, h4⟩
theorem minI_ok : ∀ (is : List Int) (i : Int), (minI i is = i ∨ minI i is ∈ is) ∧ minI i is ≤ i ∧ ∀ x ∈ is, minI i is ≤ x
  | [], i => ⟨.inl rfl, Int.le_refl _, fun x hx => (by cases hx)⟩
  | j :: is, i => by
    obtain ⟨h1, h2, h3⟩ := minI_ok is (if j < i then j else i)
    have e : minI i (j :: is) = minI (if j < i then j else i) is := rfl
    rw [e]
    refine ⟨?_, ?_, fun x hx => ?_⟩
    · rcases h1 with z | z
      · rw [z]
        split
        · exact .inr List.mem_cons_self
        · exact .inl rfl
      · exact .inr (List.mem_cons_of_mem _ z)
    · split at h2 <;> rename_i z
      · rw [if_pos z]; omega
      · rw [if_neg z]; exact h2
    · rcases List.mem_cons.mp hx with z | z
      · rw [z]
        split at h2 <;> rename_i y
        · rw [if_pos y]; exact h2
        · rw [if_neg y]; omega
      · exact h3 x z
theorem min_ints {α : Type} (f : α → Int) {l : List α} (h : l ≠ []) : ∃ a ∈ l, opMin (.lst (l.map fun x => D.int (f x))) = some (.int (f a)) ∧ ∀ b ∈ l, f a ≤ f b := by
  match l, h with
  | x :: l, _ =>
    have hm : ((x :: l).map fun x => D.int (f x)).mapM int? = some ((x :: l).map f) := by
      have : ∀ l : List α, (l.map fun x => D.int (f x)).mapM int? = some (l.map f) := by
        intro l
        induction l with
        | nil => rfl
        | cons a l ih => rw [List.map_cons, List.mapM_cons, ih]; rfl
      exact this _
    have ho : opMin (.lst ((x :: l).map fun x => D.int (f x))) = some (.int (minI (f x) (l.map f))) := by
      show (match ((x :: l).map fun x => D.int (f x)).mapM int? with | some (i :: is) => some (D.int (minI i is)) | _ => none) = _
      rw [hm]
      rfl
    obtain ⟨h1, h2, h3⟩ := minI_ok (l.map f) (f x)
    rcases h1 with z | z
    · refine ⟨x, List.mem_cons_self, by rw [ho, z], fun b hb => ?_⟩
      rcases List.mem_cons.mp hb with y | y
      · rw [y]; exact Int.le_refl _
      · rw [← z]; exact h3 _ (List.mem_map.mpr ⟨b, y, rfl⟩)
    · obtain ⟨a, ha, e⟩ := List.mem_map.mp z
      refine ⟨a, List.mem_cons_of_mem _ ha, by rw [ho, e], fun b hb => ?_⟩
      rw [e]
      rcases List.mem_cons.mp hb with y | y
      · rw [y]; exact h2
      · exact h3 _ (List.mem_map.mpr ⟨b, y, rfl⟩)
theorem unl_keys (M : Prt) (pos k : Nat) : (∀ w ∈ keys (unl M pos k), ∃ e ∈ M, w = word e.1 ∨ w = exch (word e.1) k) ∧ (unl M pos k).length ≤ 2 * M.length := by
  have key : ∀ (R : Prt) (m : Sums), (∀ w ∈ keys (R.foldl (unlS pos k) m), w ∈ keys m ∨ ∃ e ∈ R, w = word e.1 ∨ w = exch (word e.1) k) ∧ (R.foldl (unlS pos k) m).length ≤ m.length + 2 * R.length := by
    intro R
    induction R with
    | nil => intro m; exact ⟨fun w hw => .inl hw, by simp⟩
    | cons e R ih =>
      intro m
      obtain ⟨h1, h2⟩ := ih (unlS pos k m e)
      refine ⟨fun w hw => ?_, ?_⟩
      · rcases h1 w hw with z | ⟨e', he', z⟩
        · have : w ∈ keys m ∨ w = word e.1 ∨ w = exch (word e.1) k := by
            unfold unlS at z
            dsimp only at z
            have s1 : ∀ w ∈ keys (if place e.1 = pos then tless m (word e.1) e.2 else m), w ∈ keys m ∨ w = word e.1 := by
              intro w hw
              split at hw
              · rcases mem_tless hw with y | y
                · exact .inr y
                · exact .inl y
              · exact .inl hw
            split at z
            · rcases mem_tless z with y | y
              · exact .inr (.inr y)
              · rcases s1 w y with y | y
                · exact .inl y
                · exact .inr (.inl y)
            · rcases s1 w z with y | y
              · exact .inl y
              · exact .inr (.inl y)
          rcases this with y | y
          · exact .inl y
          · exact .inr ⟨e, List.mem_cons_self, y⟩
        · exact .inr ⟨e', List.mem_cons_of_mem _ he', z⟩
      · have := unlS_length pos k m e
        rw [List.foldl_cons, List.length_cons]
        omega
  obtain ⟨h1, h2⟩ := key M []
  refine ⟨fun w hw => ?_, by simpa [unl] using h2⟩
  rcases h1 w hw with z | z
  · cases z
  · exact z
theorem good_unl {c n : Nat} {M : Prt} (ht : ∀ p ∈ M, TrmOk c p.1) (hn : ∀ p ∈ M, len p.1 + 1 = n) {pos k : Nat} (ne : unl M pos k ≠ []) : GoodS (unl M pos k) n c := by
  obtain ⟨h1, h2, _⟩ := unl_ok M pos k
  obtain ⟨h3, _⟩ := unl_keys M pos k
  have hw : ∀ e ∈ M, (word e.1).length = n ∧ ∀ l ∈ word e.1, LtrOk c l := fun e he => by
    have h := ht e he
    have hl := hn e he
    unfold len at hl
    refine ⟨by unfold word; rw [List.length_append, List.length_cons]; omega, fun l hl => ?_⟩
    unfold word at hl
    rcases List.mem_append.mp hl with z | z
    · exact h.l l z
    · rcases List.mem_cons.mp z with z | z
      · rw [z]; exact h.o
      · exact h.r l z
  have hp : ∀ p ∈ unl M pos k, p.1.length = n ∧ ∀ l ∈ p.1, LtrOk c l := fun p hp => by
    obtain ⟨e, he, z⟩ := h3 p.1 (List.mem_map.mpr ⟨p, hp, rfl⟩)
    obtain ⟨a1, a2⟩ := hw e he
    rcases z with z | z
    · rw [z]; exact ⟨a1, a2⟩
    · rw [z, exch_length]
      exact ⟨a1, fun l hl => a2 l (exch_mem _ _ _ hl)⟩
  exact ⟨h1, h2, ne, fun p h => (hp p h).1, fun p h l hl => ((hp p h).2 l hl).len, fun p h l hl x hx => ((hp p h).2 l hl).pw x hx⟩
/-- rows that are found -/
structure FoundR (c n : Nat) (F : Prt) (rows : List Ltr) (pos k : Nat) : Prop where
  l : rows.length = n
  r : ∀ r ∈ rows, RowOk c r
  hp : pos < n
  hk : k + 1 < n
  ne : res F rows pos ≠ res F (exch rows k) (mvd pos k)
theorem found_rows {c n : Nat} {F : Prt} (hc : c ≤ 2) (ok : OkP F) (nz : ∀ p ∈ F, p.2 ≠ 0) (ht : ∀ p ∈ F, TrmOk c p.1) (hn : n = 2 ∨ n = 3) (hlow : ∀ p ∈ F, len p.1 + 1 < n → alike F p.1) {pos k : Nat} (hp : pos < n) (hk : k + 1 < n) (ne : unl (eqn (n - 1) F) pos k ≠ []) :
    FoundR c n F (prows (unl (eqn (n - 1) F) pos k) c (List.range n)).1 pos k := by
  have g : GoodS (unl (eqn (n - 1) F) pos k) n c := good_unl (fun p hp => ht p (List.mem_filter.mp hp).1) (fun p hp => by
    have := of_decide_eq_true (List.mem_filter.mp hp).2
    omega) ne
  have row : ∀ r : Ltr, r.length = c → (∀ x ∈ r, 0 ≤ x ∧ x ≤ 2) → RowOk c r := fun r h1 h2 => ⟨h1, fun x hx => by have := h2 x hx; omega⟩
  rcases hn with rfl | rfl
  · obtain ⟨r, s, e, sh, h1, h2, h3⟩ := prows2 g hc
    rw [e]
    have hk0 : k = 0 := by omega
    subst hk0
    have hm := main2 ok r s hp
    refine ⟨rfl, fun x hx => ?_, hp, hk, fun z => h3 ?_⟩
    · simp at hx
      rcases hx with z | z
      · rw [z]; exact row r (sh.w r (by simp)) h1
      · rw [z]; exact row s (sh.w s (by simp)) h2
    · show sumM _ (unl (eqn 1 F) pos 0) = 0
      rw [← hm, z]
      omega
  · obtain ⟨r, s, u, e, sh, h1, h2, h4, h3⟩ := prows3 g hc
    rw [e]
    obtain ⟨c1, c2⟩ := cl_low ok nz (n := 2) fun p hp hl => hlow p hp (by omega)
    have hm := main3 ok c1 c2 r s u hp (show k < 2 by omega)
    refine ⟨rfl, fun x hx => ?_, hp, hk, fun z => h3 ?_⟩
    · simp at hx
      rcases hx with z | z | z
      · rw [z]; exact row r (sh.w r (by simp)) h1
      · rw [z]; exact row s (sh.w s (by simp)) h2
      · rw [z]; exact row u (sh.w u (by simp)) h4
    · show sumM _ (unl (eqn 2 F) pos k) = 0
      rw [← hm, z]
      omega
/-- where nothing is unlike, all are alike -/
theorem none_unlike {n : Nat} {F : Prt} (ok : OkP F) (nz : ∀ p ∈ F, p.2 ≠ 0) (hn : n = 2 ∨ n = 3) (h : ∀ pos, pos < n → ∀ k, k + 1 < n → unl (eqn (n - 1) F) pos k = []) : ∀ p ∈ F, len p.1 + 1 = n → alike F p.1 := by
  have okE := ok_filter ok fun p => decide (len p.1 = n - 1)
  have nzE : ∀ p ∈ eqn (n - 1) F, p.2 ≠ 0 := fun p hp => nz p (List.mem_filter.mp hp).1
  have hl : ∀ p ∈ eqn (n - 1) F, len p.1 = n - 1 := fun p hp => of_decide_eq_true (List.mem_filter.mp hp).2
  rcases hn with rfl | rfl
  · obtain ⟨c1, c2⟩ := cl_of1 okE.nd nzE hl fun pos hp => h pos hp 0 (by omega)
    exact fun p hp hpl => alike_cl ok c1 c2 p hp (by omega)
  · obtain ⟨c1, c2⟩ := cl_of2 okE.nd nzE hl fun pos hp k hk => h pos hp k (by omega)
    exact fun p hp hpl => alike_cl ok c1 c2 p hp (by omega)
theorem alike0 {F : Prt} {t : Trm} (h : len t = 0) : alike F t := by
  cases shp_of (t := t) (by omega) with
  | s0 x =>
    intro u hu
    simp [wterms, key, srt, ways] at hu
    rw [hu]
  | s1 x a => simp [len] at h
  | s2 x a => simp [len] at h
  | s3 x a b => simp [len] at h
  | s4 x a b => simp [len] at h
  | s5 x a b => simp [len] at h
end Pm
end
section
set_option Elab.async false
set_option linter.all false
set_option maxRecDepth 100000
set_option maxHeartbeats 4000000
/-! PmFn28: exchange_at. -/
namespace Pm
open Pd
theorem exch_none {c : Nat} {F : Prt} (hB : g_barring_at [.lst (F.map eFp)] = some (.lst (([] : List Key).map eK))) : g_exchange_at [eF c F] = some .non := by
  have h1 : g_want_form [eF c F] = some (eF c F) := rfl
  have h2 := eF_parts c F
  have h3 := eq_lsts encKK.fl depK7 []
  simp at h3 hB
  have h4 : g_exchange_at_of [eF c F] = some .non := by
    simp [g_exchange_at_of, m_exchange_at_of, run, envOf, h2, hB, h3]
  simp [g_exchange_at, m_exchange_at, run, envOf, h1, h4]
theorem fm_ite {α β : Type} (p : α → Bool) (f : α → β) (l : List α) : l.filterMap (fun x => if p x then some (f x) else none) = (l.filter p).map f := by
  induction l with
  | nil => rfl
  | cons a l ih =>
    rw [List.filterMap_cons, List.filter_cons, ih]
    cases p a <;> rfl
abbrev exI : S := (sSeq (sAsg (eCall g_unlike_at [(eV 3), (eV 4), (eV 5)]) (gN 7))
    (sIf (tst (e2 opNeE (eV 7) eDic)) (sRet (eTup [(eCall (make .tab g_Table_init) [(e1 (opFld .columns) (eV 0)), (eCall g_rows_for [(e1 (opFld .columns) (eV 0)), (eV 2), (eV 7)])]), (eV 4), (eV 5)])) sNx))
abbrev exO : S := (sFor (iRng (e2 opSub (eV 2) (eC (.int 1)))) (gN 5) exI)
theorem neE_M (a : Sums) : opNeE (eM a) (.dic []) = some (.bl (!decide (a = []))) := by
  cases a <;> simp [eM, encM, opNeE]
def ExR (c n : Nat) (F : Prt) (r : D) : Prop := ∃ rows pos k, FoundR c n F rows pos k ∧ r = eEx c rows pos k
section
variable {c n : Nat} {F : Prt} (hc : c ≤ 2) (ok : OkP F) (nz : ∀ p ∈ F, p.2 ≠ 0) (ht : ∀ p ∈ F, TrmOk c p.1) (hl : F.length ≤ 400) (hn : n = 2 ∨ n = 3) (hlow : ∀ p ∈ F, len p.1 + 1 < n → alike F p.1)
def ExJ (c n : Nat) (F : Prt) (X : D) (ρ : Env) : Prop := ∃ s4 s5 s6 s7 s8 s9 s10, ρ = [.i (eF c F), .i X, .i (.int n), .i (.lst ((eqn (n - 1) F).map eMk)), s4, s5, s6, s7, s8, s9, s10]
include hc ok nz ht hl hn hlow in
theorem ex_turn (X : D) {pos k : Nat} (hp : pos < n) (hk : k + 1 < n) (s6 s7 s8 s9 s10 : Sl) :
    (∃ s7', exI [.i (eF c F), .i X, .i (.int n), .i (.lst ((eqn (n - 1) F).map eMk)), .i (.int pos), .i (.int k), s6, s7, s8, s9, s10] = some (.nx, [.i (eF c F), .i X, .i (.int n), .i (.lst ((eqn (n - 1) F).map eMk)), .i (.int pos), .i (.int k), s6, s7', s8, s9, s10]) ∧ ¬ unl (eqn (n - 1) F) pos k ≠ []) ∨
    (∃ ρ2 r, exI [.i (eF c F), .i X, .i (.int n), .i (.lst ((eqn (n - 1) F).map eMk)), .i (.int pos), .i (.int k), s6, s7, s8, s9, s10] = some (.rt r, ρ2) ∧ ExR c n F r) := by
  have hM : ∀ p ∈ eqn (n - 1) F, p ∈ F ∧ len p.1 + 1 = n := fun p hp => by
    obtain ⟨h1, h2⟩ := List.mem_filter.mp hp
    have := of_decide_eq_true h2
    exact ⟨h1, by omega⟩
  have hMl : (eqn (n - 1) F).length ≤ 400 := Nat.le_trans (List.length_filter_le _ _) hl
  have h1 := q_unlike_at (M := eqn (n - 1) F) (pos := pos) (k := k) (fun e he => by
    have := (hM e he).2
    unfold len at this
    unfold word
    rw [List.length_append, List.length_cons]
    omega) hMl
  have h2 := neE_M (unl (eqn (n - 1) F) pos k)
  have hul := (unl_keys (eqn (n - 1) F) pos k).2
  have h3 := eF_cols c F
  by_cases ne : unl (eqn (n - 1) F) pos k = []
  · left
    refine ⟨.i (eM (unl (eqn (n - 1) F) pos k)), ?_, fun z => z ne⟩
    rw [decide_eq_true ne] at h2
    generalize eM (unl (eqn (n - 1) F) pos k) = Y at *
    generalize eF c F = Z at *
    generalize (D.lst ((eqn (n - 1) F).map eMk)) = W at *
    simp [h1, h2]
  · right
    have hf := found_rows hc ok nz ht hn hlow hp hk ne
    have g : GoodS (unl (eqn (n - 1) F) pos k) n c := good_unl (fun p hp => ht p (hM p hp).1) (fun p hp => (hM p hp).2) ne
    have h4 := q_rows_for g (by omega) hc (by omega)
    rw [decide_eq_false ne] at h2
    generalize eM (unl (eqn (n - 1) F) pos k) = Y at *
    generalize (prows (unl (eqn (n - 1) F) pos k) c (List.range n)).1 = rows at *
    have h5 := q_tableI (c := c) (rows := rows) (fun r hr => (hf.r r hr).len) (by omega) (by have := hf.l; omega)
    refine ⟨[.i (eF c F), .i X, .i (.int n), .i (.lst ((eqn (n - 1) F).map eMk)), .i (.int pos), .i (.int k), s6, .i Y, s8, s9, s10], eEx c rows pos k, ?_, rows, pos, k, hf, rfl⟩
    unfold eEx
    generalize eTab c rows = T at *
    generalize eF c F = Z at *
    generalize (D.lst ((eqn (n - 1) F).map eMk)) = W at *
    simp [h1, h2, h3, h4, h5]
include hc ok nz ht hl hn hlow in
theorem ex_loop (X : D) : ∀ ρ, ExJ c n F X ρ → (∃ ρ', forL (gN 4) exO ((List.range n).map fun (j : Nat) => D.int j) ρ = some (.nx, ρ') ∧ ExJ c n F X ρ' ∧ ∀ pos ∈ List.range n, ¬ ∃ k, k + 1 < n ∧ unl (eqn (n - 1) F) pos k ≠ []) ∨ (∃ ρ' r, forL (gN 4) exO ((List.range n).map fun (j : Nat) => D.int j) ρ = some (.rt r, ρ') ∧ ExR c n F r) := by
  refine forL_find (ExJ c n F X) (fun pos => ∃ k, k + 1 < n ∧ unl (eqn (n - 1) F) pos k ≠ []) (ExR c n F) (List.range n) fun pos hpos ρ hJ => ?_
  obtain ⟨s4, s5, s6, s7, s8, s9, s10, rfl⟩ := hJ
  have hpos := List.mem_range.mp hpos
  refine ⟨[.i (eF c F), .i X, .i (.int n), .i (.lst ((eqn (n - 1) F).map eMk)), .i (.int pos), s5, s6, s7, s8, s9, s10], by simp, ?_⟩
  have hi : iRng (e2 opSub (eV 2) (eC (.int 1))) [.i (eF c F), .i X, .i (.int n), .i (.lst ((eqn (n - 1) F).map eMk)), .i (.int pos), s5, s6, s7, s8, s9, s10] = some ((List.range (n - 1)).map fun (j : Nat) => D.int j, [.i (eF c F), .i X, .i (.int n), .i (.lst ((eqn (n - 1) F).map eMk)), .i (.int pos), s5, s6, s7, s8, s9, s10]) := by
    have := iRng_ap (e2 opSub (eV 2) (eC (.int 1))) [.i (eF c F), .i X, .i (.int n), .i (.lst ((eqn (n - 1) F).map eMk)), .i (.int pos), s5, s6, s7, s8, s9, s10] ((n : Int) - 1) [.i (eF c F), .i X, .i (.int n), .i (.lst ((eqn (n - 1) F).map eMk)), .i (.int pos), s5, s6, s7, s8, s9, s10] rfl (by omega) (by omega)
    rw [this]
    have e : ((n : Int) - 1).toNat = n - 1 := by omega
    rw [e]
  have hin := forL_find (g := gN 5) (b := exI) (enc := fun (j : Nat) => D.int j) (fun ρ => ∃ s5 s6 s7 s8 s9 s10, ρ = [.i (eF c F), .i X, .i (.int n), .i (.lst ((eqn (n - 1) F).map eMk)), .i (.int pos), s5, s6, s7, s8, s9, s10]) (fun k => unl (eqn (n - 1) F) pos k ≠ []) (ExR c n F) (List.range (n - 1)) (fun k hk ρ hJ => by
    obtain ⟨s5, s6, s7, s8, s9, s10, rfl⟩ := hJ
    have hk := List.mem_range.mp hk
    refine ⟨[.i (eF c F), .i X, .i (.int n), .i (.lst ((eqn (n - 1) F).map eMk)), .i (.int pos), .i (.int k), s6, s7, s8, s9, s10], by simp, ?_⟩
    rcases ex_turn hc ok nz ht hl hn hlow X hpos (show k + 1 < n by omega) s6 s7 s8 s9 s10 with ⟨s7', h1, h2⟩ | h
    · exact .inl ⟨_, h1, ⟨_, _, _, _, _, _, rfl⟩, h2⟩
    · exact .inr h) _ ⟨s5, s6, s7, s8, s9, s10, rfl⟩
  have hx : exO [.i (eF c F), .i X, .i (.int n), .i (.lst ((eqn (n - 1) F).map eMk)), .i (.int pos), s5, s6, s7, s8, s9, s10] = forL (gN 5) exI ((List.range (n - 1)).map fun (j : Nat) => D.int j) [.i (eF c F), .i X, .i (.int n), .i (.lst ((eqn (n - 1) F).map eMk)), .i (.int pos), s5, s6, s7, s8, s9, s10] := by
    show (sFor _ _ _) _ = _
    rw [sFor_ap, hi, Option.bind_some]
  rw [hx]
  rcases hin with ⟨ρ', h1, ⟨s5, s6, s7, s8, s9, s10, rfl⟩, h3⟩ | ⟨ρ', r, h1, h2⟩
  · exact .inl ⟨_, h1, ⟨_, _, _, _, _, _, _, rfl⟩, fun ⟨k, hk, hne⟩ => h3 k (List.mem_range.mpr (by omega)) hne⟩
  · exact .inr ⟨ρ', r, h1, h2⟩
include hc ok nz ht hl hn in
theorem ex_run (hlow : ∀ p ∈ F, len p.1 + 1 < n → alike F p.1) (hex : ∃ p ∈ F, len p.1 + 1 = n ∧ ¬ alike F p.1) {B : List Key} (hBn : B ≠ []) (hBl : B.length ≤ 400) (hB : g_barring_at [.lst (F.map eFp)] = some (.lst (B.map eK))) (hmin : ∃ b ∈ B, b.2.length + 1 = n ∧ ∀ a ∈ B, b.2.length ≤ a.2.length) :
    ∃ r, ExR c n F r ∧ g_exchange_at [eF c F] = some r := by
  have h1 : g_want_form [eF c F] = some (eF c F) := rfl
  have h2 := eF_parts c F
  have h3 := eq_lsts encKK.fl depK7 B
  rw [decide_eq_false hBn] at h3
  obtain ⟨a, ha, hm1, hm2⟩ := min_ints (fun k : Key => (k.2.length : Int)) hBn
  obtain ⟨b, hb, hbn, hb2⟩ := hmin
  have ean : (1 : Int) + (a.2.length : Int) = n := by
    have h1 := hm2 b hb
    have h2 := hb2 a ha
    omega
  have c1 : eComp [9, 10] (iL (eV 1)) (gT [(gN 9), (gN 10)]) tYes (eCall (a1 opLen) [(eV 10)]) [.i (eF c F), .i (.lst (B.map eK)), .u, .u, .u, .u, .u, .u, .u, .u, .u] = some (.lst (B.map fun k => D.int k.2.length), [.i (eF c F), .i (.lst (B.map eK)), .u, .u, .u, .u, .u, .u, .u, .u, .u]) :=
    comp_val (enc := eK) B rfl (by omega) rfl rfl fun k _ => ⟨[.i (eF c F), .i (.lst (B.map eK)), .u, .u, .u, .u, .u, .u, .u, .i (eL k.1), .i (eW k.2)], by simp [turn, eK, eW], rfl⟩
  have hm1' : a1 opMin [.lst (B.map fun k => D.int k.2.length)] = some (.int a.2.length) := hm1
  have c2 : eComp [8] (iL (e1 (opFld .parts) (eV 0))) (gN 8) tYes (eCall g_marked [(eV 8)]) [.i (eF c F), .i (.lst (B.map eK)), .i (.int n), .u, .u, .u, .u, .u, .u, .u, .u] = some (.lst (F.map eMk), [.i (eF c F), .i (.lst (B.map eK)), .i (.int n), .u, .u, .u, .u, .u, .u, .u, .u]) :=
    comp_val (enc := eFp) F rfl (by omega) rfl rfl fun p hp => ⟨[.i (eF c F), .i (.lst (B.map eK)), .i (.int n), .u, .u, .u, .u, .u, .i (eFp p), .u, .u], by simp [turn, q_marked (ht p hp)], rfl⟩
  have c3 : eComp [6] (iL (eComp [8] (iL (e1 (opFld .parts) (eV 0))) (gN 8) tYes (eCall g_marked [(eV 8)]))) (gN 6) (tst (e2 opEq (eCall (a1 opLen) [(e2 opIx (eV 6) (eC (.int 0)))]) (eV 2))) (eV 6) [.i (eF c F), .i (.lst (B.map eK)), .i (.int n), .u, .u, .u, .u, .u, .u, .u, .u] = some (.lst ((eqn (n - 1) F).map eMk), [.i (eF c F), .i (.lst (B.map eK)), .i (.int n), .u, .u, .u, .u, .u, .u, .u, .u]) := by
    unfold eqn
    rw [← fm_ite]
    refine comp_valF (ρ1 := [.i (eF c F), .i (.lst (B.map eK)), .i (.int n), .u, .u, .u, .u, .u, .u, .u, .u]) (enc := eMk) F (iL_ap _ _ _ _ c2) (by omega) rfl rfl fun p hp => ⟨[.i (eF c F), .i (.lst (B.map eK)), .i (.int n), .u, .u, .u, .i (eMk p), .u, .u, .u, .u], ?_, rfl⟩
    have i0 : opIx (eMk p) (.int 0) = some (eW (word p.1)) := rfl
    have i1 : a1 opLen [eW (word p.1)] = some (.int ((len p.1 : Int) + 1)) := by
      unfold eW
      rw [len_tup, List.length_map]
      unfold word len
      rw [List.length_append, List.length_cons]
      congr 2
    generalize eMk p = Y at *
    by_cases z : len p.1 = n - 1
    · have z' : (len p.1 : Int) + 1 = n := by omega
      have z2 : ((n - 1 : Nat) : Int) + 1 = n := by omega
      simp [turn, i0, i1, z2, z]
    · have z' : ¬ (len p.1 : Int) + 1 = n := by omega
      simp [turn, i0, i1, z', z]
  have hi : iRng (eV 2) [.i (eF c F), .i (.lst (B.map eK)), .i (.int n), .i (.lst ((eqn (n - 1) F).map eMk)), .u, .u, .u, .u, .u, .u, .u] = some ((List.range n).map fun (j : Nat) => D.int j, [.i (eF c F), .i (.lst (B.map eK)), .i (.int n), .i (.lst ((eqn (n - 1) F).map eMk)), .u, .u, .u, .u, .u, .u, .u]) := iRng_ap (eV 2) _ n _ rfl (by omega) (by omega)
  rcases ex_loop hc ok nz ht hl hn hlow (.lst (B.map eK)) [.i (eF c F), .i (.lst (B.map eK)), .i (.int n), .i (.lst ((eqn (n - 1) F).map eMk)), .u, .u, .u, .u, .u, .u, .u] ⟨_, _, _, _, _, _, _, rfl⟩ with ⟨ρ', k1, _, k3⟩ | ⟨ρ', r, k1, k2⟩
  · exfalso
    obtain ⟨p, hp, hpl, hpa⟩ := hex
    refine hpa (none_unlike ok nz hn (fun pos hp k hk => ?_) p hp hpl)
    refine Decidable.byContradiction fun z => k3 pos (List.mem_range.mpr hp) ⟨k, hk, z⟩
  · refine ⟨r, k2, ?_⟩
    have h4 : g_exchange_at_of [eF c F] = some r := by
      unfold g_exchange_at_of Pd.m_exchange_at_of
      refine run_rt rfl (ρ := ρ') ?_
      show (sSeq _ (sSeq _ (sSeq _ (sSeq _ (sSeq (sFor (iRng (eV 2)) (gN 4) exO) (sRet (eC .non))))))) [.i (eF c F), .u, .u, .u, .u, .u, .u, .u, .u, .u, .u] = _
      generalize (D.lst (B.map eK)) = BB at *
      generalize (D.lst (F.map eFp)) = FF at *
      generalize (D.lst (B.map fun k => D.int k.2.length)) = LL at *
      generalize (D.lst ((eqn (n - 1) F).map eMk)) = MM at *
      generalize hO : exO = OO at *
      have h3' : opEq BB (.lst []) = some (.bl false) := h3
      simp [h2, hB, h3', c1, hm1', ean, c3, hi, k1]
    simp [g_exchange_at, m_exchange_at, run, envOf, h1, h4]
end
end Pm
end
section
set_option Elab.async false
set_option linter.all false
set_option maxRecDepth 100000
set_option maxHeartbeats 4000000
/-! PmFn29: letters drawn, picks, arrangements, ways. -/
namespace Pm
open Pd
/-- comprehensions that turn the pot -/
theorem comp_st {α β : Type} {vs : List Nat} {g : T} {t : M Bool} {e : E} {enc : α → D} {f : β → D} (J : Env → Prop) (R : β → Prop) (hw : ∀ ρ, J ρ → wipeE ρ vs = ρ) : ∀ (xs : List α), (∀ x ∈ xs, ∀ ρ, J ρ → ∃ ρ' y, turn g t e (enc x) ρ = some (some (f y), ρ') ∧ J (wipeE ρ' vs) ∧ R y) →
    ∀ ρ, J ρ → ∃ (ys : List β) (ρ' : Env), compL vs g t e (xs.map enc) ρ = some (ys.map f, ρ') ∧ J ρ' ∧ ys.length = xs.length ∧ ∀ y ∈ ys, R y
  | [], _, ρ, hJ => ⟨[], ρ, rfl, hJ, rfl, fun y hy => (by cases hy)⟩
  | x :: xs, hs, ρ, hJ => by
    obtain ⟨ρ1, y, h1, h2, h3⟩ := hs x List.mem_cons_self ρ hJ
    obtain ⟨ys, ρ', h4, h5, h6, h7⟩ := comp_st J R hw xs (fun z hz => hs z (List.mem_cons_of_mem _ hz)) (wipeE ρ1 vs) h2
    refine ⟨y :: ys, ρ', ?_, h5, by rw [List.length_cons, List.length_cons, h6], fun z hz => ?_⟩
    · rw [List.map_cons, compL_cons, hw ρ hJ, h1, Option.bind_some]
      dsimp only
      rw [h4]
      rfl
    · rcases List.mem_cons.mp hz with z1 | z1
      · rw [z1]; exact h3
      · exact h7 z z1
theorem eComp_st {α β : Type} {vs : List Nat} {i : I} {g : T} {t : M Bool} {e : E} {enc : α → D} {f : β → D} {ρ ρ1 : Env} (J : Env → Prop) (R : β → Prop) (hw : ∀ ρ, J ρ → wipeE ρ vs = ρ) (xs : List α) (hi : i ρ = some (xs.map enc, ρ1)) (hl : xs.length ≤ 1000000) (hJ : J (wipeE ρ1 vs)) (hs : ∀ x ∈ xs, ∀ ρ, J ρ → ∃ ρ' y, turn g t e (enc x) ρ = some (some (f y), ρ') ∧ J (wipeE ρ' vs) ∧ R y) :
    ∃ (ys : List β) (ρ' : Env), eComp vs i g t e ρ = some (.lst (ys.map f), ρ') ∧ J ρ' ∧ ys.length = xs.length ∧ ∀ y ∈ ys, R y := by
  obtain ⟨ys, ρ', h1, h2, h3, h4⟩ := comp_st J R hw xs hs _ hJ
  refine ⟨ys, ρ', ?_, h2, h3, h4⟩
  rw [eComp_ap, hi, Option.bind_some, if_pos (by rw [List.length_map]; exact hl)]
  dsimp only
  rw [h1]
  rfl
theorem q_law_letter {d : D} (h : Pot d) {c : Nat} (hc : c ≤ 2) : ∃ l d', LtrOk c l ∧ Pot d' ∧ g__law_letter d [.int c] = some (eL l, d') := by
  obtain ⟨ys, ρ', h1, ⟨d', hd', rfl⟩, h3, h4⟩ := eComp_st (α := Nat) (β := Int) (vs := [2]) (i := iRng (eV 1)) (g := gN 2) (t := tYes) (e := eCallO g__law_draw 0 [(eC (.int 3))]) (enc := fun (j : Nat) => D.int j) (f := D.int) (ρ := [.o d, .i (.int c), .u]) (ρ1 := [.o d, .i (.int c), .u])
    (fun ρ => ∃ d, Pot d ∧ ρ = [.o d, .i (.int c), .u]) (fun y => 0 ≤ y ∧ y ≤ 2) (fun ρ ⟨d, _, hρ⟩ => by subst hρ; rfl) (List.range c) (iRng_ap (eV 1) _ c _ rfl (by omega) (by omega)) (by rw [List.length_range]; omega) ⟨d, h, rfl⟩ (fun x _ ρ ⟨d, hd, hρ⟩ => by
      subst hρ
      obtain ⟨r, d', k1, k2, k3, k4⟩ := m_draw hd (m := 3) (by omega) (by omega)
      exact ⟨[.o d', .i (.int c), .i (.int x)], r, by simp [turn, k1], ⟨d', k4, rfl⟩, k2, by omega⟩)
  refine ⟨ys, d', ⟨by rw [h3, List.length_range], h4⟩, hd', ?_⟩
  simp [g__law_letter, m__law_letter, runO, envOfO, h1, tup_lst, eL]
theorem q_law_pick {d : D} (h : Pot d) (ds : List D) (h0 : 0 < ds.length) (h1 : ds.length < 1000) : ∃ x d', x ∈ ds ∧ Pot d' ∧ g__law_pick d [.lst ds] = some (x, d') := by
  obtain ⟨r, d', k1, k2, k3, k4⟩ := m_draw h (m := ds.length) (by omega) (by omega)
  have hr : r.toNat < ds.length := by omega
  refine ⟨ds[r.toNat], d', List.getElem_mem hr, k4, ?_⟩
  have hx : opIx (.lst ds) (.int r) = some ds[r.toNat] := by
    show atD ds r = _
    unfold atD
    rw [if_pos k2, List.getElem?_eq_getElem hr]
  simp [g__law_pick, m__law_pick, runO, envOfO, k1, hx]
theorem arr0 (n : Nat) : g__law_arranged (n + 1) [.lst []] = some (.lst [.tup []]) := by
  have h1 := eq_lsts encL.fl (fun l => Nat.le_trans (depL l) (by decide)) []
  simp at h1
  simp [g__law_arranged, m__law_arranged, run, envOf, h1]
theorem notIn0 (a : Ltr) : opNotIn (eL a) (.lst []) = some (.bl true) := by
  have h1 := encL.fl a
  have h2 := depL a
  unfold opNotIn
  dsimp only
  rw [if_pos ⟨h1, by simp [flats], by omega, by simp [depths]⟩]
  simp
theorem notIn1 (a b : Ltr) : opNotIn (eL a) (.lst [eL b]) = some (.bl (!decide (b = a))) := by
  have h1 := encL.fl a
  have h2 := depL a
  have h3 := encL.fl b
  have h4 := depL b
  have h5 := encL.eq b a
  unfold opNotIn
  dsimp only
  rw [if_pos ⟨h1, by simp [flats, h3], by omega, by simp [depths]; omega⟩]
  simp [h5]
abbrev arB (rec : List D → Option D) : S := (sIf (tst (e2 opNotIn (eV 3) (eCut (eV 0) none (some (eV 2))))) (sExt 1 (eComp [4] (iL (eCall rec [(e2 opCat (eCut (eV 0) none (some (eV 2))) (eCut (eV 0) (some (e2 opAdd (eV 2) (eC (.int 1)))) none))])) (gN 4) tYes (e2 opAdd (eTup [(eV 3)]) (eV 4)))) sNx)
theorem arr1 (n : Nat) (a : Ltr) : g__law_arranged (n + 2) [.lst [eL a]] = some (.lst [.tup [eL a]]) := by
  have h1 := eq_lsts encL.fl (fun l => Nat.le_trans (depL l) (by decide)) [a]
  have h2 := notIn0 a
  have h3 := arr0 n
  simp at h1
  show run (m__law_arranged (g__law_arranged (n + 1))) 5 1 [.lst [eL a]] = _
  generalize g__law_arranged (n + 1) = rec at *
  generalize eL a = A at *
  have h4 : iEnum (eV 0) [.i (.lst [A]), .o (.lst []), .u, .u, .u] = some ([D.tup [.int 0, A]], [.i (.lst [A]), .o (.lst []), .u, .u, .u]) := rfl
  have c1 : eCut (eV 0) none (some (eV 2)) [.i (.lst [A]), .o (.lst []), .i (.int 0), .i A, .u] = some (.lst [], [.i (.lst [A]), .o (.lst []), .i (.int 0), .i A, .u]) := rfl
  have c2 : eCut (eV 0) (some (e2 opAdd (eV 2) (eC (.int 1)))) none [.i (.lst [A]), .o (.lst []), .i (.int 0), .i A, .u] = some (.lst [], [.i (.lst [A]), .o (.lst []), .i (.int 0), .i A, .u]) := rfl
  have c3 : opCat (.lst []) (.lst []) = some (.lst []) := rfl
  have c4 : eComp [4] (iL (eCall rec [(e2 opCat (eCut (eV 0) none (some (eV 2))) (eCut (eV 0) (some (e2 opAdd (eV 2) (eC (.int 1)))) none))])) (gN 4) tYes (e2 opAdd (eTup [(eV 3)]) (eV 4)) [.i (.lst [A]), .o (.lst []), .i (.int 0), .i A, .u] = some (.lst [.tup [A]], [.i (.lst [A]), .o (.lst []), .i (.int 0), .i A, .u]) := by
    refine comp_val (ρ1 := [.i (.lst [A]), .o (.lst []), .i (.int 0), .i A, .u]) (enc := D.tup) (f := fun ds => D.tup (A :: ds)) [[]] (iL_ap _ _ _ _ (by simp [c1, c2, c3, h3])) (by simp) rfl rfl fun ds hds => ?_
    simp at hds
    subst hds
    exact ⟨[.i (.lst [A]), .o (.lst []), .i (.int 0), .i A, .i (.tup [])], rfl, rfl⟩
  simp [m__law_arranged, run, envOf, h1, h4, forL_cons, c1, h2, c4, sExt]
theorem arr2 (n : Nat) (a b : Ltr) : g__law_arranged (n + 3) [.lst [eL a, eL b]] = some (.lst ([.tup [eL a, eL b]] ++ if a = b then [] else [.tup [eL b, eL a]])) := by
  have h1 := eq_lsts encL.fl (fun l => Nat.le_trans (depL l) (by decide)) [a, b]
  have h2 := notIn0 a
  have h2' := notIn1 b a
  have h3 := arr1 n a
  have h3' := arr1 n b
  simp at h1
  show run (m__law_arranged (g__law_arranged (n + 2))) 5 1 [.lst [eL a, eL b]] = _
  generalize g__law_arranged (n + 2) = rec at *
  generalize eL a = A at *
  generalize eL b = B at *
  have h4 : iEnum (eV 0) [.i (.lst [A, B]), .o (.lst []), .u, .u, .u] = some ([D.tup [.int 0, A], D.tup [.int 1, B]], [.i (.lst [A, B]), .o (.lst []), .u, .u, .u]) := rfl
  have c1 : eCut (eV 0) none (some (eV 2)) [.i (.lst [A, B]), .o (.lst []), .i (.int 0), .i A, .u] = some (.lst [], [.i (.lst [A, B]), .o (.lst []), .i (.int 0), .i A, .u]) := rfl
  have c2 : eCut (eV 0) (some (e2 opAdd (eV 2) (eC (.int 1)))) none [.i (.lst [A, B]), .o (.lst []), .i (.int 0), .i A, .u] = some (.lst [B], [.i (.lst [A, B]), .o (.lst []), .i (.int 0), .i A, .u]) := rfl
  have c3 : opCat (.lst []) (.lst [B]) = some (.lst [B]) := rfl
  have c4 : eComp [4] (iL (eCall rec [(e2 opCat (eCut (eV 0) none (some (eV 2))) (eCut (eV 0) (some (e2 opAdd (eV 2) (eC (.int 1)))) none))])) (gN 4) tYes (e2 opAdd (eTup [(eV 3)]) (eV 4)) [.i (.lst [A, B]), .o (.lst []), .i (.int 0), .i A, .u] = some (.lst [.tup [A, B]], [.i (.lst [A, B]), .o (.lst []), .i (.int 0), .i A, .u]) := by
    refine comp_val (ρ1 := [.i (.lst [A, B]), .o (.lst []), .i (.int 0), .i A, .u]) (enc := D.tup) (f := fun ds => D.tup (A :: ds)) [[B]] (iL_ap _ _ _ _ (by simp [c1, c2, c3, h3'])) (by simp) rfl rfl fun ds hds => ?_
    simp at hds
    subst hds
    exact ⟨[.i (.lst [A, B]), .o (.lst []), .i (.int 0), .i A, .i (.tup [B])], rfl, rfl⟩
  have d1 : eCut (eV 0) none (some (eV 2)) [.i (.lst [A, B]), .o (.lst [.tup [A, B]]), .i (.int 1), .i B, .u] = some (.lst [A], [.i (.lst [A, B]), .o (.lst [.tup [A, B]]), .i (.int 1), .i B, .u]) := rfl
  have d2 : eCut (eV 0) (some (e2 opAdd (eV 2) (eC (.int 1)))) none [.i (.lst [A, B]), .o (.lst [.tup [A, B]]), .i (.int 1), .i B, .u] = some (.lst [], [.i (.lst [A, B]), .o (.lst [.tup [A, B]]), .i (.int 1), .i B, .u]) := rfl
  have d3 : opCat (.lst [A]) (.lst []) = some (.lst [A]) := rfl
  have d4 : eComp [4] (iL (eCall rec [(e2 opCat (eCut (eV 0) none (some (eV 2))) (eCut (eV 0) (some (e2 opAdd (eV 2) (eC (.int 1)))) none))])) (gN 4) tYes (e2 opAdd (eTup [(eV 3)]) (eV 4)) [.i (.lst [A, B]), .o (.lst [.tup [A, B]]), .i (.int 1), .i B, .u] = some (.lst [.tup [B, A]], [.i (.lst [A, B]), .o (.lst [.tup [A, B]]), .i (.int 1), .i B, .u]) := by
    refine comp_val (ρ1 := [.i (.lst [A, B]), .o (.lst [.tup [A, B]]), .i (.int 1), .i B, .u]) (enc := D.tup) (f := fun ds => D.tup (B :: ds)) [[A]] (iL_ap _ _ _ _ (by simp [d1, d2, d3, h3])) (by simp) rfl rfl fun ds hds => ?_
    simp at hds
    subst hds
    exact ⟨[.i (.lst [A, B]), .o (.lst [.tup [A, B]]), .i (.int 1), .i B, .i (.tup [A])], rfl, rfl⟩
  by_cases z : a = b
  · simp [m__law_arranged, run, envOf, h1, h4, forL_cons, c1, h2, c4, sExt, d1, h2', z]
  · simp [m__law_arranged, run, envOf, h1, h4, forL_cons, c1, h2, c4, sExt, d1, h2', z, d4]
end Pm
end
section
set_option Elab.async false
set_option linter.all false
set_option maxRecDepth 100000
set_option maxHeartbeats 4000000
/-! PmFn30: _law_ways. -/
namespace Pm
open Pd
def eP (p : Wrd × Wrd) : D := .tup [eW p.1, eW p.2]
def arrs : Wrd → List Wrd
  | [] => [[]]
  | [a] => [[a]]
  | [a, b] => [a, b] :: if a = b then [] else [[b, a]]
  | _ => []
def cuts (w : Wrd) : List (Wrd × Wrd) := (List.range (w.length + 1)).map fun i => (w.take i, w.drop i)
theorem ways_eq {w : Wrd} (h : w.length ≤ 2) : (arrs w).flatMap cuts = ways w := by
  match w, h with
  | [], _ => rfl
  | [a], _ => rfl
  | [a, b], _ =>
    by_cases z : a = b
    · simp [arrs, ways, z]
      rfl
    · simp [arrs, ways, z]
      rfl
theorem q_law_arranged {w : Wrd} (h : w.length ≤ 2) : g__law_arranged 6 [.lst (w.map eL)] = some (.lst ((arrs w).map eW)) := by
  match w, h with
  | [], _ => exact arr0 5
  | [a], _ => exact arr1 4 a
  | [a, b], _ =>
    show g__law_arranged 6 [.lst [eL a, eL b]] = _
    rw [arr2 3 a b]
    by_cases z : a = b
    · rw [if_pos z]
      simp [arrs, z, eW]
    · rw [if_neg z]
      simp [arrs, z, eW]
theorem arrs_len {w : Wrd} (h : w.length ≤ 2) : (arrs w).length ≤ 2 ∧ ∀ v ∈ arrs w, v.length = w.length ∧ ∀ l ∈ v, l ∈ w := by
  match w, h with
  | [], _ => simp [arrs]
  | [a], _ => simp [arrs]
  | [a, b], _ =>
    by_cases z : a = b
    · simp [arrs, z]
    · simp [arrs, z]
theorem wy_comp (w : Wrd) (hw : w.length ≤ 2) (s0 s1 s3 : Sl) : eComp [3] (iRng (e2 opAdd (eCall (a1 opLen) [(eV 2)]) (eC (.int 1)))) (gN 3) tYes (eTup [(eCut (eV 2) none (some (eV 3))), (eCut (eV 2) (some (eV 3)) none)]) [s0, s1, .i (eW w), s3] = some (.lst ((cuts w).map eP), [s0, s1, .i (eW w), .u]) := by
  unfold cuts
  rw [List.map_map]
  have h1 : a1 opLen [eW w] = some (.int w.length) := by unfold eW; rw [len_tup, List.length_map]
  refine comp_val (ρ1 := [s0, s1, .i (eW w), s3]) (enc := fun (j : Nat) => D.int j) (List.range (w.length + 1)) ?_ (by rw [List.length_range]; omega) rfl rfl fun i hi => ⟨[s0, s1, .i (eW w), .i (.int i)], ?_, rfl⟩
  · have := iRng_ap (e2 opAdd (eCall (a1 opLen) [(eV 2)]) (eC (.int 1))) [s0, s1, .i (eW w), s3] ((w.length : Int) + 1) [s0, s1, .i (eW w), s3] (by simp [h1]) (by omega) (by omega)
    rw [this]
    rfl
  · have hi := List.mem_range.mp hi
    have c1 : eCut (eV 2) none (some (eV 3)) [s0, s1, .i (eW w), .i (.int i)] = some (eW (w.take i), [s0, s1, .i (eW w), .i (.int i)]) := eCut_lo eL rfl rfl (by omega)
    have c2 : eCut (eV 2) (some (eV 3)) none [s0, s1, .i (eW w), .i (.int i)] = some (eW (w.drop i), [s0, s1, .i (eW w), .i (.int i)]) := eCut_hi eL rfl rfl
    simp [turn, c1, c2, eP]
theorem sExt_val {k : Nat} {e : E} {ρ ρ1 ρ2 : Env} {ds bs : List D} (h0 : ownL? k ρ = some ((), ρ)) (h1 : e ρ = some (.lst bs, ρ1)) (h2 : own? k ρ1 = some (.lst ds, ρ1)) (h3 : ds.length + bs.length < 1000000) (h4 : putO k (.lst (ds ++ bs)) ρ1 = some ((), ρ2)) : sExt k e ρ = some (.nx, ρ2) := by
  unfold sExt
  rw [bnd_some h0, bnd_some h1, bnd_some h2]
  dsimp only
  rw [if_pos h3, bnd_some h4]
  rfl
theorem q_law_ways {w : Wrd} (h : w.length ≤ 2) : g__law_ways [.lst (w.map eL)] = some (.lst ((ways w).map eP)) := by
  obtain ⟨hl, hv⟩ := arrs_len h
  obtain ⟨ρ', h1, acc, s2, s3, ⟨ha, _, _⟩, hs⟩ := for_inv (g := gN 2) (b := (sExt 1 (eComp [3] (iRng (e2 opAdd (eCall (a1 opLen) [(eV 2)]) (eC (.int 1)))) (gN 3) tYes (eTup [(eCut (eV 2) none (some (eV 3))), (eCut (eV 2) (some (eV 3)) none)])))) (enc := eW)
    (fun rem ρ => ∃ (acc : List (Wrd × Wrd)) (s2 s3 : Sl), (acc ++ rem.flatMap cuts = ways w ∧ (∀ v ∈ rem, v ∈ arrs w) ∧ acc.length + 3 * rem.length ≤ 6) ∧ ρ = [.i (.lst (w.map eL)), .o (.lst (acc.map eP)), s2, s3]) (arrs w) [.i (.lst (w.map eL)), .o (.lst []), .u, .u] ⟨[], _, _, ⟨ways_eq h, fun v hv => hv, by simp; omega⟩, rfl⟩ (fun x ys ρ ⟨acc, s2, s3, ⟨ha, hin, hal⟩, hρ⟩ => by
      subst hρ
      rw [List.length_cons] at hal
      obtain ⟨hxl, _⟩ := hv x (hin x List.mem_cons_self)
      have hc := wy_comp x (by omega) (.i (.lst (w.map eL))) (.o (.lst (acc.map eP))) s3
      have hcl : (cuts x).length = x.length + 1 := by unfold cuts; rw [List.length_map, List.length_range]
      have hlen : acc.length + (cuts x).length < 1000000 := by omega
      refine ⟨[.i (.lst (w.map eL)), .o (.lst (acc.map eP)), .i (eW x), s3], [.i (.lst (w.map eL)), .o (.lst ((acc ++ cuts x).map eP)), .i (eW x), .u], by simp, ?_, _, _, _, ⟨by rw [← ha, List.flatMap_cons, List.append_assoc], fun v hv => hin v (List.mem_cons_of_mem _ hv), by rw [List.length_append]; omega⟩, rfl⟩
      refine sExt_val rfl hc rfl (by rw [List.length_map, List.length_map]; exact hlen) ?_
      rw [← List.map_append]
      rfl)
  have ha' : acc = ways w := by simpa using ha
  subst ha'
  rw [hs] at h1
  have h2 := q_law_arranged h
  unfold g__law_ways Pd.m__law_ways
  generalize g__law_arranged 6 = ga at *
  generalize D.lst (w.map eL) = X at *
  have h3 : iL (eCall ga [eV 0]) [.i X, .o (.lst []), .u, .u] = some ((arrs w).map eW, [.i X, .o (.lst []), .u, .u]) := iL_ap _ _ _ _ (by simp [h2])
  simp [run, envOf, h3, h1]
end Pm
end
section
set_option Elab.async false
set_option linter.all false
set_option maxRecDepth 100000
set_option maxHeartbeats 4000000
/-! PmFn31: _law_form: what it stands on. -/
namespace Pm
open Pd
theorem ways_mem {w : Wrd} {p : Wrd × Wrd} (h : p ∈ ways w) : (∀ l ∈ p.1, l ∈ w) ∧ (∀ l ∈ p.2, l ∈ w) ∧ p.1.length + p.2.length = w.length := by
  match w, h with
  | [], h => simp [ways] at h; simp [h]
  | [a], h => simp [ways] at h; rcases h with h | h <;> simp [h]
  | [a, b], h =>
    unfold ways at h
    rcases List.mem_append.mp h with z | z
    · simp at z
      rcases z with z | z | z <;> simp [z]
    · split at z
      · cases z
      · simp at z
        rcases z with z | z | z <;> simp [z]
theorem ways_len (w : Wrd) : (ways w).length ≤ 6 := by
  match w with
  | [] => simp [ways]
  | [a] => simp [ways]
  | [a, b] =>
    unfold ways
    by_cases z : a = b <;> simp [z]
  | _ :: _ :: _ :: _ => simp [ways]
theorem ways_pos {w : Wrd} (h : w.length ≤ 2) : 0 < (ways w).length := by
  match w, h with
  | [], _ => simp [ways]
  | [a], _ => simp [ways]
  | [a, b], _ => simp [ways]
structure FQ (c : Nat) (Q : Prt) : Prop where
  nd : (keys Q).Nodup
  ok : ∀ p ∈ Q, TrmOk c p.1
theorem opDict_enc {P : Prt} (nd : (keys P).Nodup) (hl : P.length < 1000000) : opDict (.lst (P.map fun p => .tup [eT p.1, .int p.2])) = some (.dic (encM eT D.int P)) := by
  have h1 : ∀ R : Prt, (R.map fun p => D.tup [eT p.1, .int p.2]).mapM pair? = some (R.map fun p => (eT p.1, D.int p.2)) := by
    intro R
    induction R with
    | nil => rfl
    | cons a l ih =>
      have hp : pair? (.tup [eT a.1, .int a.2]) = some (eT a.1, .int a.2) := by
        unfold pair?
        dsimp only
        rw [if_pos ⟨encT.k a.1, dT a.1⟩]
      rw [List.map_cons, List.mapM_cons, hp, ih]
      rfl
  have h2 : ∀ (R Q : Prt), (keys (Q ++ R)).Nodup → (R.map fun p => (eT p.1, D.int p.2)).foldl (fun m p => dput m p.1 p.2) (encM eT D.int Q) = encM eT D.int (Q ++ R) := by
    intro R
    induction R with
    | nil => intro Q _; rw [List.append_nil]; rfl
    | cons a l ih =>
      intro Q hn
      have na : a.1 ∉ keys Q := by
        intro z
        rw [keys, List.map_append, List.nodup_append] at hn
        exact hn.2.2 a.1 z a.1 (by simp) rfl
      rw [List.map_cons, List.foldl_cons]
      dsimp only
      have := dput_enc (f := D.int) encT a.1 a.2 Q
      rw [this, tput_new na, ih (Q ++ [(a.1, a.2)]) (by simpa using hn)]
      simp
  have h3 := h2 P [] (by simpa using nd)
  unfold opDict
  dsimp only
  rw [if_pos (by rw [List.length_map]; exact hl), h1]
  show some (D.dic ((P.map fun p => (eT p.1, D.int p.2)).foldl (fun m p => dput m p.1 p.2) (encM eT D.int []))) = _
  rw [h3]
  rfl
theorem gSub_val {k : Nat} {i : E} {y d0 d d' x : D} {ρ ρ1 ρ2 : Env} (h0 : own? k ρ = some (d0, ρ)) (h1 : i ρ = some (x, ρ1)) (h2 : own? k ρ1 = some (d, ρ1)) (h3 : setD d x y = some d') (h4 : putO k d' ρ1 = some ((), ρ2)) : gSub k i y ρ = some ((), ρ2) := by
  rw [gSub_ap, h0, Option.bind_some]
  dsimp only
  rw [h1, Option.bind_some]
  dsimp only
  rw [h2, Option.bind_some]
  dsimp only
  rw [h3, Option.bind_some]
  exact h4
abbrev fmI : S := (sAsg (e2 opAdd (eGetO 3 (eTup [(eV 8), (eV 6), (eV 9)]) (eC (.int 0))) (eV 7)) (gSub 3 (eTup [(eV 8), (eV 6), (eV 9)])))
/-- the terms of one turn -/
theorem fm_inner {c : Nat} {Q : Prt} (hQ : FQ c Q) (hQl : Q.length ≤ 100) {own : Ltr} (ho : LtrOk c own) (f : Int) (W : List (Wrd × Wrd)) (hW : ∀ p ∈ W, (∀ l ∈ p.1, LtrOk c l) ∧ (∀ l ∈ p.2, LtrOk c l) ∧ p.1.length + p.2.length ≤ 2) (hWl : W.length ≤ 6) (s0 s1 s2 s4 s5 s8 s9 s10 s11 : Sl) :
    ∃ Q' s8' s9', (FQ c Q' ∧ Q'.length ≤ Q.length + W.length) ∧ forL (gT [(gN 8), (gN 9)]) fmI (W.map eP) [s0, s1, s2, .o (.dic (encM eT D.int Q)), s4, s5, .i (eL own), .i (.int f), s8, s9, s10, s11] = some (.nx, [s0, s1, s2, .o (.dic (encM eT D.int Q')), s4, s5, .i (eL own), .i (.int f), s8', s9', s10, s11]) := by
  obtain ⟨ρ', h1, Q', s8', s9', ⟨hq, _, hl⟩, hs⟩ := for_inv (g := gT [(gN 8), (gN 9)]) (b := fmI) (enc := eP)
    (fun rem ρ => ∃ (Q' : Prt) (s8' s9' : Sl), (FQ c Q' ∧ (∀ p ∈ rem, p ∈ W) ∧ Q'.length + rem.length ≤ Q.length + W.length) ∧ ρ = [s0, s1, s2, .o (.dic (encM eT D.int Q')), s4, s5, .i (eL own), .i (.int f), s8', s9', s10, s11]) W
    [s0, s1, s2, .o (.dic (encM eT D.int Q)), s4, s5, .i (eL own), .i (.int f), s8, s9, s10, s11] ⟨Q, s8, s9, ⟨hQ, fun p hp => hp, Nat.le_refl _⟩, rfl⟩ (fun x ys ρ ⟨Q', s8, s9, ⟨hq, hin, hal⟩, hρ⟩ => by
      subst hρ
      rw [List.length_cons] at hal
      obtain ⟨w1, w2, w3⟩ := hW x (hin x List.mem_cons_self)
      have hlt : Q'.length < 1000000 := by omega
      have e1 : eTup [(eV 8), (eV 6), (eV 9)] [s0, s1, s2, .o (.dic (encM eT D.int Q')), s4, s5, .i (eL own), .i (.int f), .i (eW x.1), .i (eW x.2), s10, s11] = some (eT (x.1, own, x.2), [s0, s1, s2, .o (.dic (encM eT D.int Q')), s4, s5, .i (eL own), .i (.int f), .i (eW x.1), .i (eW x.2), s10, s11]) := by simp [eT]
      have e2 : eGetO 3 (eTup [(eV 8), (eV 6), (eV 9)]) (eC (.int 0)) [s0, s1, s2, .o (.dic (encM eT D.int Q')), s4, s5, .i (eL own), .i (.int f), .i (eW x.1), .i (eW x.2), s10, s11] = some (.int ((tget Q' (x.1, own, x.2)).getD 0), [s0, s1, s2, .o (.dic (encM eT D.int Q')), s4, s5, .i (eL own), .i (.int f), .i (eW x.1), .i (eW x.2), s10, s11]) := by
        rw [getO_enc (m := Q') (f := D.int) encT dT (x := (x.1, own, x.2)) (y := .int 0) rfl e1 rfl rfl]
        cases tget Q' (x.1, own, x.2) <;> rfl
      have e3 : setD (.dic (encM eT D.int Q')) (eT (x.1, own, x.2)) (.int ((tget Q' (x.1, own, x.2)).getD 0 + f)) = some (.dic (encM eT D.int (tput Q' (x.1, own, x.2) ((tget Q' (x.1, own, x.2)).getD 0 + f)))) := setD_enc encT dT hlt _ _
      have e4 : Pd.e2 opAdd (eGetO 3 (eTup [(eV 8), (eV 6), (eV 9)]) (eC (.int 0))) (eV 7) [s0, s1, s2, .o (.dic (encM eT D.int Q')), s4, s5, .i (eL own), .i (.int f), .i (eW x.1), .i (eW x.2), s10, s11] = some (.int ((tget Q' (x.1, own, x.2)).getD 0 + f), [s0, s1, s2, .o (.dic (encM eT D.int Q')), s4, s5, .i (eL own), .i (.int f), .i (eW x.1), .i (eW x.2), s10, s11]) := by
        rw [e2_ap, e2]
        rfl
      generalize (tget Q' (x.1, own, x.2)).getD 0 + f = v at *
      have ll := length_tput (m := Q') (k := (x.1, own, x.2)) (v := v)
      have hok : FQ c (tput Q' (x.1, own, x.2) v) := ⟨nodup_tput hq.nd, fun p hp => by
        rcases mem_tput hp with z | z
        · rw [z]; exact ⟨w1, ho, w2, w3⟩
        · exact hq.ok p z⟩
      generalize tput Q' (x.1, own, x.2) v = Q2 at *
      generalize encM eT D.int Q' = X at *
      generalize eT (x.1, own, x.2) = Y at *
      refine ⟨[s0, s1, s2, .o (.dic X), s4, s5, .i (eL own), .i (.int f), .i (eW x.1), .i (eW x.2), s10, s11], [s0, s1, s2, .o (.dic (encM eT D.int Q2)), s4, s5, .i (eL own), .i (.int f), .i (eW x.1), .i (eW x.2), s10, s11], by simp [eP], ?_, Q2, _, _, ⟨hok, fun p hp => hin p (List.mem_cons_of_mem _ hp), by omega⟩, rfl⟩
      show sAsg _ _ _ = _
      rw [sAsg_ap, e4, Option.bind_some]
      dsimp only
      rw [gSub_val rfl e1 rfl e3 rfl]
      rfl)
  refine ⟨Q', s8', s9', ⟨hq, by simpa using hl⟩, by rw [h1, hs]⟩
end Pm
end
section
set_option Elab.async false
set_option linter.all false
set_option maxRecDepth 100000
set_option maxHeartbeats 4000000
/-! PmFn32: _law_form: a turn. -/
namespace Pm
open Pd
abbrev fmC : E := (eComp [11] (iRng (eCallO g__law_draw 0 [(e2 opAdd (eV 2) (eC (.int 1)))])) (gN 11) tYes (eCallO g__law_letter 0 [(eV 1)]))
abbrev fmB : S := (sSeq (sPar 6 7 (eCallO g__law_letter 0 [(eV 1)]) (e2 opSub (eCallO g__law_draw 0 [(eC (.int 7))]) (eC (.int 3))))
    (sSeq (sAsg (eCall g__law_ways [fmC]) (gN 5))
    (sSeq (sIf (tst (e2 opEq (eCallO g__law_draw 0 [(eC (.int 2))]) (eC (.int 0)))) (sAsg (eLst [(eCallO g__law_pick 0 [(eV 5)])]) (gN 5)) sNx)
    (sFor (iL (eV 5)) (gT [(gN 8), (gN 9)]) fmI))))
theorem fm_lot {d : D} (h : Pot d) {c : Nat} (hc : c ≤ 2) (s3 s4 s5 s6 s7 s8 s9 s10 s11 : Sl) : ∃ (w : Wrd) (d' : D), w.length ≤ 2 ∧ (∀ l ∈ w, LtrOk c l) ∧ Pot d' ∧ fmC [.o d, .i (.int c), .i (.int 2), s3, s4, s5, s6, s7, s8, s9, s10, s11] = some (.lst (w.map eL), [.o d', .i (.int c), .i (.int 2), s3, s4, s5, s6, s7, s8, s9, s10, .u]) := by
  obtain ⟨n, d1, k1, k2, k3, k4⟩ := m_draw h (m := 3) (by omega) (by omega)
  have k1' : g__law_draw d [.int (2 + 1)] = some (.int n, d1) := k1
  have hi : iRng (eCallO g__law_draw 0 [(e2 opAdd (eV 2) (eC (.int 1)))]) [.o d, .i (.int c), .i (.int 2), s3, s4, s5, s6, s7, s8, s9, s10, s11] = some ((List.range n.toNat).map fun (j : Nat) => D.int j, [.o d1, .i (.int c), .i (.int 2), s3, s4, s5, s6, s7, s8, s9, s10, s11]) := iRng_ap _ _ n _ (by simp [k1]) (by omega) (by omega)
  obtain ⟨ys, ρ', h1, ⟨d', hd', rfl⟩, h3, h4⟩ := eComp_st (α := Nat) (β := Ltr) (vs := [11]) (i := iRng (eCallO g__law_draw 0 [(e2 opAdd (eV 2) (eC (.int 1)))])) (g := gN 11) (t := tYes) (e := eCallO g__law_letter 0 [(eV 1)]) (enc := fun (j : Nat) => D.int j) (f := eL) (ρ := [.o d, .i (.int c), .i (.int 2), s3, s4, s5, s6, s7, s8, s9, s10, s11]) (ρ1 := [.o d1, .i (.int c), .i (.int 2), s3, s4, s5, s6, s7, s8, s9, s10, s11])
    (fun ρ => ∃ d, Pot d ∧ ρ = [.o d, .i (.int c), .i (.int 2), s3, s4, s5, s6, s7, s8, s9, s10, .u]) (LtrOk c) (fun ρ ⟨d, _, hρ⟩ => by subst hρ; rfl) (List.range n.toNat) hi (by rw [List.length_range]; omega) ⟨d1, k4, rfl⟩ (fun x _ ρ ⟨d, hd, hρ⟩ => by
      subst hρ
      obtain ⟨l, d', k1, k2, k3⟩ := q_law_letter hd hc
      exact ⟨[.o d', .i (.int c), .i (.int 2), s3, s4, s5, s6, s7, s8, s9, s10, .i (.int x)], l, by simp [turn, k3], ⟨d', k2, rfl⟩, k1⟩)
  exact ⟨ys, d', by rw [h3, List.length_range]; omega, h4, hd', h1⟩
theorem fm_turn {d : D} (h : Pot d) {c : Nat} (hc : c ≤ 2) {Q : Prt} (hQ : FQ c Q) (hQl : Q.length ≤ 100) (s4 s5 s6 s7 s8 s9 s10 s11 : Sl) : ∃ (d' : D) (Q' : Prt) (s5' s6' s7' s8' s9' s10' s11' : Sl), (Pot d' ∧ FQ c Q' ∧ Q'.length ≤ Q.length + 6) ∧
    fmB [.o d, .i (.int c), .i (.int 2), .o (.dic (encM eT D.int Q)), s4, s5, s6, s7, s8, s9, s10, s11] = some (.nx, [.o d', .i (.int c), .i (.int 2), .o (.dic (encM eT D.int Q')), s4, s5', s6', s7', s8', s9', s10', s11']) := by
  obtain ⟨own, d1, o1, o2, o3⟩ := q_law_letter h hc
  obtain ⟨f, d2, f1, f2, f3, f4⟩ := m_draw o2 (m := 7) (by omega) (by omega)
  obtain ⟨w, d3, w1, w2, w3, w4⟩ := fm_lot f4 hc (.o (.dic (encM eT D.int Q))) s4 s5 (.i (eL own)) (.i (.int (f - 3))) s8 s9 s10 s11
  have ww := q_law_ways w1
  obtain ⟨b, d4, b1, b2, b3, b4⟩ := m_draw w3 (m := 2) (by omega) (by omega)
  generalize hX : D.dic (encM eT D.int Q) = X at *
  have y1 : (sPar 6 7 (eCallO g__law_letter 0 [(eV 1)]) (e2 opSub (eCallO g__law_draw 0 [(eC (.int 7))]) (eC (.int 3)))) [.o d, .i (.int c), .i (.int 2), .o X, s4, s5, s6, s7, s8, s9, s10, s11] = some (.nx, [.o d2, .i (.int c), .i (.int 2), .o X, s4, s5, .i (eL own), .i (.int (f - 3)), s8, s9, s10, s11]) := by
    simp [sPar, o3, f1]
  have y2 : (sAsg (eCall g__law_ways [fmC]) (gN 5)) [.o d2, .i (.int c), .i (.int 2), .o X, s4, s5, .i (eL own), .i (.int (f - 3)), s8, s9, s10, s11] = some (.nx, [.o d3, .i (.int c), .i (.int 2), .o X, s4, .i (.lst ((ways w).map eP)), .i (eL own), .i (.int (f - 3)), s8, s9, s10, .u]) := by
    generalize hC : fmC = C at *
    generalize D.lst (w.map eL) = Y at *
    simp [w4, ww]
  have y3 : ∃ (d5 : D) (W : List (Wrd × Wrd)), (Pot d5 ∧ W.length ≤ 6 ∧ ∀ p ∈ W, p ∈ ways w) ∧ (sIf (tst (e2 opEq (eCallO g__law_draw 0 [(eC (.int 2))]) (eC (.int 0)))) (sAsg (eLst [(eCallO g__law_pick 0 [(eV 5)])]) (gN 5)) sNx) [.o d3, .i (.int c), .i (.int 2), .o X, s4, .i (.lst ((ways w).map eP)), .i (eL own), .i (.int (f - 3)), s8, s9, s10, .u] = some (.nx, [.o d5, .i (.int c), .i (.int 2), .o X, s4, .i (.lst (W.map eP)), .i (eL own), .i (.int (f - 3)), s8, s9, s10, .u]) := by
    by_cases z : b = 0
    · obtain ⟨x, d5, p1, p2, p3⟩ := q_law_pick b4 ((ways w).map eP) (by rw [List.length_map]; exact ways_pos w1) (by rw [List.length_map]; have := ways_len w; omega)
      obtain ⟨p, hp, rfl⟩ := List.mem_map.mp p1
      refine ⟨d5, [p], ⟨p2, by simp, fun q hq => by rw [List.mem_singleton.mp hq]; exact hp⟩, ?_⟩
      generalize D.lst ((ways w).map eP) = Y at *
      simp [b1, z, p3]
    · refine ⟨d4, ways w, ⟨b4, ways_len w, fun q hq => hq⟩, ?_⟩
      generalize D.lst ((ways w).map eP) = Y at *
      simp [b1, z]
  obtain ⟨d5, W, ⟨e1, e2, e3⟩, y3⟩ := y3
  subst hX
  obtain ⟨Q', s8', s9', ⟨q1, q2⟩, y4⟩ := fm_inner hQ hQl o1 (f - 3) W (fun p hp => by
    obtain ⟨m1, m2, m3⟩ := ways_mem (e3 p hp)
    exact ⟨fun l hl => w2 l (m1 l hl), fun l hl => w2 l (m2 l hl), by omega⟩) e2 (.o d5) (.i (.int c)) (.i (.int 2)) s4 (.i (.lst (W.map eP))) s8 s9 s10 .u
  refine ⟨d5, Q', .i (.lst (W.map eP)), .i (eL own), .i (.int (f - 3)), s8', s9', s10, .u, ⟨e1, q1, by omega⟩, ?_⟩
  unfold fmB
  rw [sSeq_ap, y1, Option.bind_some]
  dsimp only
  rw [sSeq_ap, y2, Option.bind_some]
  dsimp only
  rw [sSeq_ap, y3, Option.bind_some]
  dsimp only
  rw [sFor_ap, iL_ap (eV 5) _ (W.map eP) _ rfl, Option.bind_some]
  exact y4
/-- terms sorted, without those of factor 0 -/
theorem q_law_form {d : D} (h : Pot d) {c : Nat} (hc : c ≤ 2) : ∃ (P : Prt) (d' : D), (Pot d' ∧ FQ c P ∧ (∀ p ∈ P, p.2 ≠ 0) ∧ P.length ≤ 12) ∧ g__law_form d [.int c, .int 2] = some (.dic (encM eT D.int P), d') := by
  obtain ⟨r, d1, r1, r2, r3, r4⟩ := m_draw h (m := 5) (by omega) (by omega)
  obtain ⟨n, hn, hr⟩ : ∃ n : Nat, n ≤ 2 ∧ opIx (.lst [.int 0, .int 1, .int 1, .int 2, .int 2]) (.int r) = some (.int n) := by
    have : r = 0 ∨ r = 1 ∨ r = 2 ∨ r = 3 ∨ r = 4 := by omega
    rcases this with rfl | rfl | rfl | rfl | rfl
    · exact ⟨0, by omega, rfl⟩
    · exact ⟨1, by omega, rfl⟩
    · exact ⟨1, by omega, rfl⟩
    · exact ⟨2, by omega, rfl⟩
    · exact ⟨2, by omega, rfl⟩
  have hi : iRng (e2 opIx (eLst [(eC (.int 0)), (eC (.int 1)), (eC (.int 1)), (eC (.int 2)), (eC (.int 2))]) (eCallO g__law_draw 0 [(eC (.int 5))])) [.o d, .i (.int c), .i (.int 2), .o (.dic []), .u, .u, .u, .u, .u, .u, .u, .u] = some ((List.range n).map fun (j : Nat) => D.int j, [.o d1, .i (.int c), .i (.int 2), .o (.dic []), .u, .u, .u, .u, .u, .u, .u, .u]) := iRng_ap _ _ n _ (by simp [r1, hr]) (by omega) (by omega)
  obtain ⟨ρ', h1, d2, Q, s4, s5, s6, s7, s8, s9, s10, s11, ⟨hd, hQ, hQl⟩, hs⟩ := for_inv (g := gN 4) (b := fmB) (enc := fun (j : Nat) => D.int j)
    (fun rem ρ => ∃ (d : D) (Q : Prt) (s4 s5 s6 s7 s8 s9 s10 s11 : Sl), (Pot d ∧ FQ c Q ∧ Q.length + 6 * rem.length ≤ 12) ∧ ρ = [.o d, .i (.int c), .i (.int 2), .o (.dic (encM eT D.int Q)), s4, s5, s6, s7, s8, s9, s10, s11]) (List.range n) [.o d1, .i (.int c), .i (.int 2), .o (.dic []), .u, .u, .u, .u, .u, .u, .u, .u]
    ⟨d1, [], _, _, _, _, _, _, _, _, ⟨r4, ⟨List.nodup_nil, fun p hp => (by cases hp)⟩, by rw [List.length_range]; simp; omega⟩, rfl⟩ (fun x ys ρ ⟨d, Q, s4, s5, s6, s7, s8, s9, s10, s11, ⟨hd, hQ, hQl⟩, hρ⟩ => by
      subst hρ
      rw [List.length_cons] at hQl
      obtain ⟨d', Q', t5, t6, t7, t8, t9, t10, t11, ⟨k1, k2, k3⟩, k4⟩ := fm_turn hd hc hQ (by omega) (.i (.int x)) s5 s6 s7 s8 s9 s10 s11
      exact ⟨[.o d, .i (.int c), .i (.int 2), .o (.dic (encM eT D.int Q)), .i (.int x), s5, s6, s7, s8, s9, s10, s11], _, by simp, k4, d', Q', _, _, _, _, _, _, _, _, ⟨k1, k2, by omega⟩, rfl⟩)
  have hQl : Q.length ≤ 12 := hQl
  have hk : (encM eT D.int Q).map (·.1) = (keys Q).map eT := by unfold encM keys; rw [List.map_map, List.map_map]; rfl
  obtain ⟨K, p, hsrt⟩ := sorted_T (d := .dic (encM eT D.int Q)) (keys Q) (by show some _ = _; rw [hk]) (by rw [keys, List.length_map]; omega)
  have hKl : K.length ≤ 12 := by rw [p.length_eq, keys, List.length_map]; exact hQl
  have hget : ∀ t ∈ K, opIx (.dic (encM eT D.int Q)) (eT t) = some (.int (get0 Q t)) ∧ TrmOk c t := fun t ht => by
    obtain ⟨q, hq, rfl⟩ := List.mem_map.mp (p.mem_iff.mp ht)
    rw [ix_enc encT dT, tget_some hQ.nd (v := q.2) hq, get0_mem hQ.nd (v := q.2) hq]
    exact ⟨rfl, hQ.ok q hq⟩
  have hpk := perm_keys hQ.nd p
  have ndK : K.Nodup := p.nodup_iff.mpr hQ.nd
  let P : Prt := (K.filter fun t => decide (get0 Q t ≠ 0)).map fun t => (t, get0 Q t)
  have hPk : keys P = K.filter fun t => decide (get0 Q t ≠ 0) := by
    show List.map _ (List.map _ _) = _
    rw [List.map_map]
    exact List.map_id _
  have ndP : (keys P).Nodup := by rw [hPk]; exact ndK.filter _
  have hP : ∀ q ∈ P, q.2 ≠ 0 ∧ TrmOk c q.1 := fun q hq => by
    obtain ⟨t, ht, rfl⟩ := List.mem_map.mp hq
    obtain ⟨t1, t2⟩ := List.mem_filter.mp ht
    exact ⟨of_decide_eq_true t2, (hget t t1).2⟩
  have hPl : P.length ≤ 12 := by
    show (List.map _ _).length ≤ 12
    rw [List.length_map]
    exact Nat.le_trans (List.length_filter_le _ _) hKl
  refine ⟨P, d2, ⟨hd, ⟨ndP, fun q hq => (hP q hq).2⟩, fun q hq => (hP q hq).1, hPl⟩, ?_⟩
  have hdic := opDict_enc ndP (by omega)
  have hc : eComp [10] (iL (eCall (a1 opSorted) [(eV 3)])) (gN 10) (tst (e2 opNe (e2 opIx (eV 3) (eV 10)) (eC (.int 0)))) (eTup [(eV 10), (e2 opIx (eV 3) (eV 10))]) [.o d2, .i (.int c), .i (.int 2), .o (.dic (encM eT D.int Q)), s4, s5, s6, s7, s8, s9, s10, s11] = some (.lst (P.map fun q => .tup [eT q.1, .int q.2]), [.o d2, .i (.int c), .i (.int 2), .i (.dic (encM eT D.int Q)), s4, s5, s6, s7, s8, s9, .u, s11]) := by
    show _ = some (D.lst (((K.filter fun t => decide (get0 Q t ≠ 0)).map fun t => (t, get0 Q t)).map fun q => .tup [eT q.1, .int q.2]), _)
    rw [List.map_map, ← fm_ite]
    refine comp_valF (ρ1 := [.o d2, .i (.int c), .i (.int 2), .i (.dic (encM eT D.int Q)), s4, s5, s6, s7, s8, s9, s10, s11]) (enc := eT) K ?_ (by omega) rfl rfl fun t ht => ⟨[.o d2, .i (.int c), .i (.int 2), .i (.dic (encM eT D.int Q)), s4, s5, s6, s7, s8, s9, .i (eT t), s11], ?_, rfl⟩
    · refine iL_ap _ _ _ _ ?_
      have h2 : a1 opSorted [.dic (encM eT D.int Q)] = some (.lst (K.map eT)) := hsrt
      generalize D.dic (encM eT D.int Q) = X at *
      simp [h2]
    · obtain ⟨g1, _⟩ := hget t ht
      generalize D.dic (encM eT D.int Q) = X at *
      by_cases z : get0 Q t = 0
      · simp [turn, g1, z]
      · simp [turn, g1, z]
  have hdic' : a1 opDict [.lst (P.map fun q => .tup [eT q.1, .int q.2])] = some (.dic (encM eT D.int P)) := hdic
  rw [hs] at h1
  unfold g__law_form Pd.m__law_form
  refine runO_rt rfl (ρ := [.i (.int c), .i (.int 2), .i (.dic (encM eT D.int Q)), s4, s5, s6, s7, s8, s9, .u, s11]) ?_
  show (sSeq (sNew 3 eDic) (sSeq (sFor (iRng (e2 opIx (eLst [(eC (.int 0)), (eC (.int 1)), (eC (.int 1)), (eC (.int 2)), (eC (.int 2))]) (eCallO g__law_draw 0 [(eC (.int 5))]))) (gN 4) fmB) (sRet (eCall (a1 opDict) [_])))) [.o d, .i (.int c), .i (.int 2), .u, .u, .u, .u, .u, .u, .u, .u, .u] = _
  generalize D.dic (encM eT D.int Q) = X at *
  generalize D.dic (encM eT D.int P) = Y at *
  generalize (D.lst (P.map fun q => .tup [eT q.1, .int q.2])) = Z at *
  generalize hB : fmB = BB at *
  rw [sSeq_ap, show sNew 3 eDic [.o d, .i (.int c), .i (.int 2), .u, .u, .u, .u, .u, .u, .u, .u, .u] = some (.nx, [.o d, .i (.int c), .i (.int 2), .o (.dic []), .u, .u, .u, .u, .u, .u, .u, .u]) from rfl, Option.bind_some]
  dsimp only
  rw [sSeq_ap, sFor_ap, hi, Option.bind_some]
  dsimp only
  rw [h1, Option.bind_some]
  dsimp only
  rw [sRet_ap, eCall_ap, args_cons, hc]
  simp [hdic']
end Pm
end
section
set_option Elab.async false
set_option linter.all false
set_option maxRecDepth 100000
set_option maxHeartbeats 4000000
/-! PmFn33: _law_held. -/
namespace Pm
open Pd
theorem firsts_ok : ∀ (is acc : List Int), (∀ x ∈ acc, x ∈ firsts acc is) ∧ ∀ x ∈ is, x ∈ firsts acc is
  | [], acc => ⟨fun x hx => hx, fun x hx => (by cases hx)⟩
  | k :: ks, acc => by
    obtain ⟨h1, h2⟩ := firsts_ok ks (if acc.any (· == k) then acc else acc ++ [k])
    refine ⟨fun x hx => ?_, fun x hx => ?_⟩
    · refine h1 x ?_
      split
      · exact hx
      · exact List.mem_append.mpr (.inl hx)
    · rcases List.mem_cons.mp hx with z | z
      · refine h1 x ?_
        split
        · rename_i y
          obtain ⟨w, hw, e⟩ := List.any_eq_true.mp y
          have : w = k := by simpa using e
          rw [z, ← this]; exact hw
        · rw [z]; exact List.mem_append.mpr (.inr (by simp))
      · exact h2 x z
theorem firsts_one (v : Int) : ∀ is : List Int, (∀ x ∈ is, x = v) → firsts [v] is = [v]
  | [], _ => rfl
  | k :: ks, h => by
    have hk := h k List.mem_cons_self
    rw [firsts, hk]
    have : ([v].any (· == v)) = true := by simp
    rw [if_pos this]
    exact firsts_one v ks fun x hx => h x (List.mem_cons_of_mem _ hx)
theorem firsts_gt {is : List Int} {v : Int} (hv : v ∈ is) : (1 < (firsts [] is).length) ↔ ¬ ∀ x ∈ is, x = v := by
  constructor
  · intro h hall
    cases is with
    | nil => cases hv
    | cons k ks =>
      have hk := hall k List.mem_cons_self
      have : firsts [] (k :: ks) = firsts [v] ks := by rw [firsts, hk]; rfl
      rw [this, firsts_one v ks fun x hx => hall x (List.mem_cons_of_mem _ hx)] at h
      simp at h
  · intro h
    refine Decidable.byContradiction fun hl => h fun x hx => ?_
    have h1 := (firsts_ok is []).2 x hx
    have h2 := (firsts_ok is []).2 v hv
    match firsts [] is, hl, h1, h2 with
    | [], _, h1, _ => cases h1
    | [a], _, h1, h2 => rw [List.mem_singleton.mp h1, List.mem_singleton.mp h2]
    | a :: b :: r, hl, _, _ => simp at hl
theorem setLen_ints {α : Type} (f : α → Int) (l : List α) (hl : l.length ≤ 1000) : opSetLen (.lst (l.map fun x => D.int (f x))) = some (.int (firsts [] (l.map f)).length) := by
  have hm : (l.map fun x => D.int (f x)).mapM int? = some (l.map f) := by
    clear hl
    induction l with
    | nil => rfl
    | cons a l ih => rw [List.map_cons, List.mapM_cons, ih]; rfl
  unfold opSetLen
  dsimp only
  rw [if_pos (by rw [List.length_map]; exact hl), hm]
  rfl
theorem sorted_ints (H : List Int) (hl : H.length ≤ 1000) : ∃ H' : List Int, H'.Perm H ∧ H'.Pairwise (fun a b => a ≤ b) ∧ opSorted (.lst (H.map D.int)) = some (.lst (H'.map D.int)) := by
  refine ⟨H.mergeSort fun a b => !decide (b < a), List.mergeSort_perm _ _, ?_, ?_⟩
  · have := List.pairwise_mergeSort (le := fun (a b : Int) => !decide (b < a)) (fun a b c h1 h2 => by simp at h1 h2 ⊢; omega) (fun a b => by simp; omega) H
    refine this.imp fun {a b} h => ?_
    simpa using h
  · have h1 : sortD (H.map D.int) = (H.mergeSort fun a b => !decide (b < a)).map D.int := by
      unfold sortD
      refine (List.map_mergeSort fun a _ b _ => ?_).symm
      simp [lt]
    have h2 : srtOk (H.map D.int) = true := by
      unfold srtOk
      have : (H.map D.int).all isInt = true := by
        rw [List.all_eq_true]
        intro x hx
        obtain ⟨a, _, rfl⟩ := List.mem_map.mp hx
        rfl
      rw [this]
      rfl
    have h3 : depths (H.map D.int) ≤ 8 := Nat.le_trans (depths_map (n := 0) (fun a => by simp [depth]) H) (by decide)
    show (if allAlk (H.map D.int) ∧ srtOk (H.map D.int) ∧ (H.map D.int).length ≤ 1000 ∧ depths (H.map D.int) ≤ 8 then some (D.lst (sortD (H.map D.int))) else none) = _
    rw [if_pos ⟨allAlk_map alkI H, h2, by rw [List.length_map]; exact hl, h3⟩, h1]
theorem eGet_val {α β : Type} [DecidableEq α] {e : α → D} {f : β → D} (h : EncK e) (hd : ∀ a, depth (e a) ≤ 8) {m : List (α × β)} {a b c : E} {ρ ρ1 ρ2 ρ3 : Env} {x : α} {y : D} (h1 : a ρ = some (.dic (encM e f m), ρ1)) (h2 : b ρ1 = some (e x, ρ2)) (h3 : c ρ2 = some (y, ρ3)) : eGet a b c ρ = some (((tget m x).map f).getD y, ρ3) := by
  unfold eGet
  rw [bnd_some h1, bnd_some h2, bnd_some h3]
  dsimp only
  rw [if_pos ⟨h.k x, hd x⟩, dget_enc h]
  rfl
abbrev heC : E := (eComp [6, 7] (iL (eCall g__law_ways [(eCall (a1 opSorted) [(e2 opAdd (eV 2) (eV 4))])])) (gT [(gN 6), (gN 7)]) tYes (eGet (eV 0) (eTup [(eV 6), (eV 3), (eV 7)]) (eC (.int 0))))
abbrev heB : S := (sSeq (sAsg heC (gN 5))
    (sIf (tst (e2 opGt (e1 opSetLen (eV 5)) (eC (.int 1)))) (sApp 1 (e2 opAdd (e2 opAdd (eCall (a1 opLen) [(eV 2)]) (eCall (a1 opLen) [(eV 4)])) (eC (.int 1)))) sNx))
theorem he_comp {c : Nat} {P : Prt} {t : Trm} (ht : TrmOk c t) (s1 s5 s6 s7 : Sl) : heC [.i (.dic (encM eT D.int P)), s1, .i (eW t.1), .i (eL t.2.1), .i (eW t.2.2), s5, s6, s7] = some (.lst ((wterms (key t)).map fun u => D.int (get0 P u)), [.i (.dic (encM eT D.int P)), s1, .i (eW t.1), .i (eL t.2.1), .i (eW t.2.2), s5, .u, .u]) := by
  obtain ⟨d, k1, k2⟩ := q_key ht
  have hl : (srt (t.1 ++ t.2.2)).length ≤ 2 := by
    have := ht.s
    unfold len at this
    rw [srt_length, List.length_append]
    exact this
  have k2' : a1 opSorted [d] = some (.lst ((srt (t.1 ++ t.2.2)).map eL)) := k2
  have k3 := q_law_ways hl
  unfold wterms key
  rw [List.map_map]
  refine comp_val (ρ1 := [.i (.dic (encM eT D.int P)), s1, .i (eW t.1), .i (eL t.2.1), .i (eW t.2.2), s5, s6, s7]) (enc := eP) (f := fun w => D.int (get0 P (w.1, t.2.1, w.2))) (ways (srt (t.1 ++ t.2.2))) ?_ (by have := ways_len (srt (t.1 ++ t.2.2)); omega) rfl rfl fun w hw => ⟨[.i (.dic (encM eT D.int P)), s1, .i (eW t.1), .i (eL t.2.1), .i (eW t.2.2), s5, .i (eW w.1), .i (eW w.2)], ?_, rfl⟩
  · refine iL_ap _ _ _ _ ?_
    generalize D.dic (encM eT D.int P) = X at *
    generalize D.lst ((srt (t.1 ++ t.2.2)).map eL) = Y at *
    simp [k1, k2', k3]
  · have g1 : eGet (eV 0) (eTup [(eV 6), (eV 3), (eV 7)]) (eC (.int 0)) [.i (.dic (encM eT D.int P)), s1, .i (eW t.1), .i (eL t.2.1), .i (eW t.2.2), s5, .i (eW w.1), .i (eW w.2)] = some (.int (get0 P (w.1, t.2.1, w.2)), [.i (.dic (encM eT D.int P)), s1, .i (eW t.1), .i (eL t.2.1), .i (eW t.2.2), s5, .i (eW w.1), .i (eW w.2)]) := by
      rw [eGet_val (ρ1 := [.i (.dic (encM eT D.int P)), s1, .i (eW t.1), .i (eL t.2.1), .i (eW t.2.2), s5, .i (eW w.1), .i (eW w.2)]) (ρ2 := [.i (.dic (encM eT D.int P)), s1, .i (eW t.1), .i (eL t.2.1), .i (eW t.2.2), s5, .i (eW w.1), .i (eW w.2)]) encT dT (x := (w.1, t.2.1, w.2)) (y := .int 0) rfl (by simp [eT]) rfl]
      unfold get0
      cases tget P (w.1, t.2.1, w.2) <;> rfl
    unfold turn
    rw [show gT [gN 6, gN 7] (eP w) [.i (.dic (encM eT D.int P)), s1, .i (eW t.1), .i (eL t.2.1), .i (eW t.2.2), s5, .u, .u] = some ((), [.i (.dic (encM eT D.int P)), s1, .i (eW t.1), .i (eL t.2.1), .i (eW t.2.2), s5, .i (eW w.1), .i (eW w.2)]) from rfl, Option.bind_some]
    dsimp only
    rw [tYes_ap, Option.bind_some]
    dsimp only
    rw [if_pos rfl, g1]
    rfl
theorem q_law_held {c : Nat} {P : Prt} (ok : OkP P) (ht : ∀ p ∈ P, TrmOk c p.1) (hl : P.length ≤ 400) : ∃ H : List Int, (H = [] ↔ ∀ p ∈ P, alike P p.1) ∧ (∀ x rest, H = x :: rest → (∃ p ∈ P, ¬ alike P p.1 ∧ (len p.1 : Int) + 1 = x) ∧ ∀ p ∈ P, ¬ alike P p.1 → x ≤ (len p.1 : Int) + 1) ∧ H.length ≤ 400 ∧ g__law_held [.dic (encM eT D.int P)] = some (.lst (H.map D.int)) := by
  let nb : Trm × Int → Bool := fun p => !decide (alike P p.1)
  let ln : Trm × Int → Int := fun p => (len p.1 : Int) + 1
  obtain ⟨ρ', h1, acc, s2, s3, s4, s5, ⟨ha, _, _⟩, hs⟩ := for_inv (g := gT [(gN 2), (gN 3), (gN 4)]) (b := heB) (enc := fun p : Trm × Int => eT p.1)
    (fun rem ρ => ∃ (acc : List Int) (s2 s3 s4 s5 : Sl), (acc ++ (rem.filter nb).map ln = (P.filter nb).map ln ∧ (∀ p ∈ rem, p ∈ P) ∧ acc.length + rem.length ≤ 400) ∧ ρ = [.i (.dic (encM eT D.int P)), .o (.lst (acc.map D.int)), s2, s3, s4, s5, .u, .u]) P [.i (.dic (encM eT D.int P)), .o (.lst []), .u, .u, .u, .u, .u, .u]
    ⟨[], _, _, _, _, ⟨rfl, fun p hp => hp, by simpa using hl⟩, rfl⟩ (fun x ys ρ ⟨acc, s2, s3, s4, s5, ⟨ha, hin, hal⟩, hρ⟩ => by
      subst hρ
      rw [List.length_cons] at hal
      have hx := hin x List.mem_cons_self
      have hcmp := he_comp (P := P) (ht x hx) (.o (.lst (acc.map D.int))) s5 .u .u
      have hwl : (wterms (key x.1)).length ≤ 1000 := by rw [wterms_len]; have := ways_len (key x.1).2; omega
      have hset := setLen_ints (get0 P) (wterms (key x.1)) hwl
      have hself : get0 P x.1 ∈ (wterms (key x.1)).map (get0 P) := List.mem_map.mpr ⟨x.1, self_mem (ok.short x hx), rfl⟩
      have hgt := firsts_gt hself
      have hal2 : (∀ v ∈ (wterms (key x.1)).map (get0 P), v = get0 P x.1) ↔ alike P x.1 := by
        rw [List.forall_mem_map]
        exact Iff.rfl
      rw [hal2] at hgt
      have l1 : a1 opLen [eW x.1.1] = some (.int x.1.1.length) := by unfold eW; rw [len_tup, List.length_map]
      have l2 : a1 opLen [eW x.1.2.2] = some (.int x.1.2.2.length) := by unfold eW; rw [len_tup, List.length_map]
      have hln : ln x = (x.1.1.length : Int) + (x.1.2.2.length : Int) + 1 := by
        show ((len x.1 : Nat) : Int) + 1 = _
        unfold len
        omega
      have ha' : acc ++ (if nb x then [ln x] else []) ++ (ys.filter nb).map ln = (P.filter nb).map ln := by
        rw [← ha, List.filter_cons]
        cases nb x <;> simp
      have hacc : acc.length < 1000000 := by omega
      generalize hV : D.lst ((wterms (key x.1)).map fun u => D.int (get0 P u)) = V at *
      generalize hX : D.dic (encM eT D.int P) = X at *
      have y1 : (sAsg heC (gN 5)) [.i X, .o (.lst (acc.map D.int)), .i (eW x.1.1), .i (eL x.1.2.1), .i (eW x.1.2.2), s5, .u, .u] = some (.nx, [.i X, .o (.lst (acc.map D.int)), .i (eW x.1.1), .i (eL x.1.2.1), .i (eW x.1.2.2), .i V, .u, .u]) := by
        rw [sAsg_ap, hcmp]
        simp
      refine ⟨[.i X, .o (.lst (acc.map D.int)), .i (eW x.1.1), .i (eL x.1.2.1), .i (eW x.1.2.2), s5, .u, .u], [.i X, .o (.lst ((acc ++ (if nb x then [ln x] else [])).map D.int)), .i (eW x.1.1), .i (eL x.1.2.1), .i (eW x.1.2.2), .i V, .u, .u], by simp [eT], ?_, _, _, _, _, _, ⟨ha', fun p hp => hin p (List.mem_cons_of_mem _ hp), by
        rw [List.length_append]
        cases nb x <;> simp <;> omega⟩, rfl⟩
      unfold heB
      rw [sSeq_ap, y1, Option.bind_some]
      dsimp only
      by_cases z : alike P x.1
      · have zn : nb x = false := by show (!decide (alike P x.1)) = false; rw [decide_eq_true z]; rfl
        have zg : ¬ 1 < (firsts [] ((wterms (key x.1)).map (get0 P))).length := fun y => hgt.mp y z
        have zg' : ¬ (1 : Int) < ((firsts [] ((wterms (key x.1)).map (get0 P))).length : Int) := by omega
        rw [zn]
        simp [hset, zg']
      · have zn : nb x = true := by show (!decide (alike P x.1)) = true; rw [decide_eq_false z]; rfl
        have zg := hgt.mpr z
        have zg' : (1 : Int) < ((firsts [] ((wterms (key x.1)).map (get0 P))).length : Int) := by omega
        rw [zn, hln]
        simp [hset, zg', l1, l2, sApp, hacc])
  have ha' : acc = (P.filter nb).map ln := by simpa using ha
  subst ha'
  have hHl : ((P.filter nb).map ln).length ≤ 400 := by rw [List.length_map]; exact Nat.le_trans (List.length_filter_le _ _) hl
  obtain ⟨H, p1, p2, p3⟩ := sorted_ints ((P.filter nb).map ln) (by omega)
  have hmem : ∀ x, x ∈ H ↔ ∃ p ∈ P, ¬ alike P p.1 ∧ (len p.1 : Int) + 1 = x := fun x => by
    rw [p1.mem_iff, List.mem_map]
    constructor
    · rintro ⟨p, hp, e⟩
      obtain ⟨q1, q2⟩ := List.mem_filter.mp hp
      refine ⟨p, q1, fun z => ?_, e⟩
      have : (!decide (alike P p.1)) = true := q2
      rw [decide_eq_true z] at this
      cases this
    · rintro ⟨p, hp, hn, e⟩
      refine ⟨p, List.mem_filter.mpr ⟨hp, ?_⟩, e⟩
      show (!decide (alike P p.1)) = true
      rw [decide_eq_false hn]
      rfl
  refine ⟨H, ?_, fun x rest hx => ⟨(hmem x).mp (by rw [hx]; exact List.mem_cons_self), fun p hp hn => ?_⟩, by rw [p1.length_eq]; exact hHl, ?_⟩
  · constructor
    · intro hH p hp
      refine Decidable.byContradiction fun z => ?_
      have := (hmem _).mpr ⟨p, hp, z, rfl⟩
      rw [hH] at this
      cases this
    · intro h
      cases hH : H with
      | nil => rfl
      | cons x r =>
        obtain ⟨p, hp, hn, _⟩ := (hmem x).mp (by rw [hH]; exact List.mem_cons_self)
        exact absurd (h p hp) hn
  · have hy := (hmem ((len p.1 : Int) + 1)).mpr ⟨p, hp, hn, rfl⟩
    rw [hx] at hy p2
    rcases List.mem_cons.mp hy with z | z
    · omega
    · exact (List.pairwise_cons.mp p2).1 _ z
  · rw [hs] at h1
    have h2 : iD (eV 0) [.i (.dic (encM eT D.int P)), .o (.lst []), .u, .u, .u, .u, .u, .u] = some (P.map fun p => eT p.1, [.i (.dic (encM eT D.int P)), .o (.lst []), .u, .u, .u, .u, .u, .u]) := by
      rw [iD_ap (eV 0) _ (encM eT D.int P) _ rfl]
      unfold encM
      rw [List.map_map]
      rfl
    have h3 : a1 opSorted [.lst (((P.filter nb).map ln).map D.int)] = some (.lst (H.map D.int)) := p3
    unfold g__law_held Pd.m__law_held
    refine run_rt rfl (ρ := [.i (.dic (encM eT D.int P)), .i (.lst (((P.filter nb).map ln).map D.int)), s2, s3, s4, s5, .u, .u]) ?_
    show (sSeq (sNew 1 (eLst [])) (sSeq (sFor (iD (eV 0)) (gT [(gN 2), (gN 3), (gN 4)]) heB) (sRet (eCall (a1 opSorted) [(eV 1)])))) [.i (.dic (encM eT D.int P)), .u, .u, .u, .u, .u, .u, .u] = _
    generalize D.dic (encM eT D.int P) = X at *
    generalize D.lst (((P.filter nb).map ln).map D.int) = Z at *
    generalize hB : heB = BB at *
    simp [h2, h1, h3]
end Pm
end
section
set_option Elab.async false
set_option linter.all false
set_option maxRecDepth 100000
set_option maxHeartbeats 4000000
/-! PmFn34: _law_plain, _law_is_exchange. -/
namespace Pm
open Pd
theorem q_law_plain {c : Nat} {rows : List Ltr} (hr : ∀ r ∈ rows, r.length = c) (hc : c ≤ 2) (hn : rows.length ≤ 3) : g__law_plain [.lst (rows.map eLs)] = some (eRows rows) := by
  obtain ⟨ρ', h1, acc, s2, s3, ⟨ha, _, _⟩, hs⟩ := for_inv (g := gN 2) (b := (sApp 1 (eComp [3] (iL (eV 2)) (gN 3) tYes (eIf (tst (e1 (opPrp .rat g_Ratio_is_whole) (eV 3))) (e1 (opPrp .rat g_Ratio_top) (eV 3)) (eV 3))))) (enc := eLs)
    (fun rem ρ => ∃ (acc : List Ltr) (s2 s3 : Sl), (acc ++ rem = rows ∧ (∀ r ∈ rem, r ∈ rows) ∧ acc.length + rem.length ≤ 3) ∧ ρ = [.i (.lst (rows.map eLs)), .o (.lst (acc.map eRow)), s2, s3]) rows [.i (.lst (rows.map eLs)), .o (.lst []), .u, .u] ⟨[], _, _, ⟨rfl, fun r hr => hr, by simpa using hn⟩, rfl⟩ (fun x ys ρ ⟨acc, s2, s3, ⟨ha, hin, hal⟩, hρ⟩ => by
      subst hρ
      rw [List.length_cons] at hal
      have hx := hr x (hin x List.mem_cons_self)
      have hc1 : eComp [3] (iL (eV 2)) (gN 3) tYes (eIf (tst (e1 (opPrp .rat g_Ratio_is_whole) (eV 3))) (e1 (opPrp .rat g_Ratio_top) (eV 3)) (eV 3)) [.i (.lst (rows.map eLs)), .o (.lst (acc.map eRow)), .i (eLs x), s3] = some (eRow x, [.i (.lst (rows.map eLs)), .o (.lst (acc.map eRow)), .i (eLs x), .u]) :=
        comp_val (enc := rat) x rfl (by omega) rfl rfl fun n _ => ⟨[.i (.lst (rows.map eLs)), .o (.lst (acc.map eRow)), .i (eLs x), .i (rat n)], by
          have p1 : opPrp .rat g_Ratio_is_whole (rat n) = some (.bl true) := rfl
          have p2 : opPrp .rat g_Ratio_top (rat n) = some (.int n) := rfl
          simp [turn, p1, p2], rfl⟩
      have hacc : acc.length < 1000000 := by omega
      refine ⟨[.i (.lst (rows.map eLs)), .o (.lst (acc.map eRow)), .i (eLs x), s3], [.i (.lst (rows.map eLs)), .o (.lst ((acc ++ [x]).map eRow)), .i (eLs x), .u], by simp, ?_, _, _, _, ⟨by rw [← ha]; simp, fun r hr => hin r (List.mem_cons_of_mem _ hr), by rw [List.length_append, List.length_singleton]; omega⟩, rfl⟩
      generalize D.lst (rows.map eLs) = X at *
      generalize eLs x = Y at *
      simp [sApp, hc1, hacc])
  have ha' : acc = rows := by simpa using ha
  subst ha'
  rw [hs] at h1
  have h2 : iL (eV 0) [.i (.lst (acc.map eLs)), .o (.lst []), .u, .u] = some (acc.map eLs, [.i (.lst (acc.map eLs)), .o (.lst []), .u, .u]) := rfl
  generalize D.lst (acc.map eLs) = X at *
  unfold g__law_plain Pd.m__law_plain
  simp [run, envOf, h2, h1, eRows]
theorem q_tab_cols (c : Nat) (rows : List Ltr) : opPrp .tab g_Table_columns (eTab c rows) = some (.int c) := rfl
theorem q_tab_height (c : Nat) (rows : List Ltr) : opPrp .tab g_Table_height (eTab c rows) = some (.int rows.length) := by
  show g_Table_height [eTab c rows] = _
  have h1 : opFld .rows (eTab c rows) = some (eTR rows) := rfl
  have h2 : a1 opLen [eTR rows] = some (.int rows.length) := by unfold eTR; rw [len_tup, List.length_map]
  simp [g_Table_height, m_Table_height, run, envOf, h1, h2]
theorem q_tab_rows {c : Nat} {rows : List Ltr} (hn : rows.length ≤ 3) : opPrp .tab g_Table_rows (eTab c rows) = some (.lst (rows.map eLs)) := by
  show g_Table_rows [eTab c rows] = _
  have h1 : eComp [1] (iT (e1 (opFld .rows) (eV 0))) (gN 1) tYes (eCall (a1 opList) [(eV 1)]) [.i (eTab c rows), .u] = some (.lst (rows.map eLs), [.i (eTab c rows), .u]) :=
    comp_val (enc := eTRow) rows rfl (by omega) rfl rfl fun r _ => ⟨[.i (eTab c rows), .i (eTRow r)], rfl, rfl⟩
  simp [g_Table_rows, m_Table_rows, run, envOf, h1]
/-- the rows exchanged by the law -/
theorem ot2 (A B : D) (s0 s1 s2 s3 s4 s5 s7 s9 : Sl) : (e2 opCat (e2 opCat (eCut (eV 6) none (some (eV 8))) (eLst [(e2 opIx (eV 6) (e2 opAdd (eV 8) (eC (.int 1)))), (e2 opIx (eV 6) (eV 8))])) (eCut (eV 6) (some (e2 opAdd (eV 8) (eC (.int 2)))) none)) [s0, s1, s2, s3, s4, s5, .i (.lst [A, B]), s7, .i (.int 0), s9] = some (.lst [B, A], [s0, s1, s2, s3, s4, s5, .i (.lst [A, B]), s7, .i (.int 0), s9]) := rfl
theorem ot30 (A B C : D) (s0 s1 s2 s3 s4 s5 s7 s9 : Sl) : (e2 opCat (e2 opCat (eCut (eV 6) none (some (eV 8))) (eLst [(e2 opIx (eV 6) (e2 opAdd (eV 8) (eC (.int 1)))), (e2 opIx (eV 6) (eV 8))])) (eCut (eV 6) (some (e2 opAdd (eV 8) (eC (.int 2)))) none)) [s0, s1, s2, s3, s4, s5, .i (.lst [A, B, C]), s7, .i (.int 0), s9] = some (.lst [B, A, C], [s0, s1, s2, s3, s4, s5, .i (.lst [A, B, C]), s7, .i (.int 0), s9]) := rfl
theorem ot31 (A B C : D) (s0 s1 s2 s3 s4 s5 s7 s9 : Sl) : (e2 opCat (e2 opCat (eCut (eV 6) none (some (eV 8))) (eLst [(e2 opIx (eV 6) (e2 opAdd (eV 8) (eC (.int 1)))), (e2 opIx (eV 6) (eV 8))])) (eCut (eV 6) (some (e2 opAdd (eV 8) (eC (.int 2)))) none)) [s0, s1, s2, s3, s4, s5, .i (.lst [A, B, C]), s7, .i (.int 1), s9] = some (.lst [A, C, B], [s0, s1, s2, s3, s4, s5, .i (.lst [A, B, C]), s7, .i (.int 1), s9]) := rfl
theorem q_other {rows : List Ltr} {k : Nat} (hn : rows.length ≤ 3) (hk : k + 1 < rows.length) (s0 s1 s2 s3 s4 s5 s7 s9 : Sl) : (e2 opCat (e2 opCat (eCut (eV 6) none (some (eV 8))) (eLst [(e2 opIx (eV 6) (e2 opAdd (eV 8) (eC (.int 1)))), (e2 opIx (eV 6) (eV 8))])) (eCut (eV 6) (some (e2 opAdd (eV 8) (eC (.int 2)))) none)) [s0, s1, s2, s3, s4, s5, .i (eRows rows), s7, .i (.int k), s9] = some (eRows (exch rows k), [s0, s1, s2, s3, s4, s5, .i (eRows rows), s7, .i (.int k), s9]) := by
  match rows, hn, k, hk with
  | [a, b], _, 0, _ => exact ot2 _ _ _ _ _ _ _ _ _ _
  | [a, b, d], _, 0, _ => exact ot30 _ _ _ _ _ _ _ _ _ _ _
  | [a, b, d], _, 1, _ => exact ot31 _ _ _ _ _ _ _ _ _ _ _
  | [_], _, k, hk => simp at hk
  | [], _, k, hk => simp at hk
  | [_, _], _, k + 1, hk => simp at hk <;> omega
  | [_, _, _], _, k + 2, hk => simp at hk <;> omega
  | _ :: _ :: _ :: _ :: _, hl, _, _ => simp at hl
theorem chain_ok {a b c : E} {ρ : Env} {x y z : Int} (h1 : a ρ = some (.int x, ρ)) (h2 : b ρ = some (.int y, ρ)) (h3 : c ρ = some (.int z, ρ)) (h4 : x ≤ y) (h5 : y < z) : eChain opLe opLt a b c ρ = some (.bl true, ρ) := by
  unfold eChain
  rw [bnd_some h1, bnd_some h2]
  have e : Option.bind (opLe (.int x) (.int y)) bool? = some true := by simp [h4]
  rw [e]
  show bnd c _ ρ = _
  rw [bnd_some h3]
  simp [h5]
theorem q_law_is_exchange {c : Nat} {P : Prt} {rows : List Ltr} {p k : Nat} (h : FitP c P rows) (hp : p < rows.length) (hk : k + 1 < rows.length) : g__law_is_exchange [.dic (encM eT D.int P), .int c, .int rows.length, eEx c rows p k] = some (.bl (!decide (res P rows p = res P (exch rows k) (mvd p k)))) := by
  have h' : FitP c P (exch rows k) := ⟨h.c2, h.nd, h.t, fun r hr => h.r r (exch_mem _ _ _ hr), h.n, by rw [exch_length]; exact h.m⟩
  have r1 := q_law_result h hp
  have r2 := q_law_result h' (p := mvd p k) (by rw [exch_length]; exact mvd_lt hp hk)
  have t1 := q_tab_cols c rows
  have t2 := q_tab_height c rows
  have t3 := q_tab_rows (c := c) h.m
  have t4 := q_law_plain (c := c) (fun r hr => (h.r r hr).len) h.c2 h.m
  have i0 : opIx (eEx c rows p k) (.int 0) = some (eTab c rows) := rfl
  have i1 : opIx (eEx c rows p k) (.int 1) = some (.int p) := rfl
  have i2 : opIx (eEx c rows p k) (.int 2) = some (.int k) := rfl
  have i3 : a1 opLen [eEx c rows p k] = some (.int 3) := rfl
  have i4 : opIsi .tuple (eEx c rows p k) = some (.bl true) := rfl
  have i5 : opIsi (.cls .tab) (eTab c rows) = some (.bl true) := rfl
  have a1' := add_ratI 0 (res P rows p)
  have a2' := add_ratI 0 (res P (exch rows k) (mvd p k))
  have ne := ne_rat (0 + res P rows p) (0 + res P (exch rows k) (mvd p k))
  rw [Int.zero_add, Int.zero_add] at ne
  rw [Int.zero_add] at a1' a2'
  have mv := q_law_moved p k
  have c1 : ∀ (s0 s1 s4 s5 s6 s7 s8 s9 : Sl), eComp [9] (iT (eCut (eV 3) (some (eC (.int 1))) none)) (gN 9) tYes (e1 (opIsi .int) (eV 9)) [s0, s1, .i (.int rows.length), .i (eEx c rows p k), s4, s5, s6, s7, s8, s9] = some (.lst [.bl true, .bl true], [s0, s1, .i (.int rows.length), .i (eEx c rows p k), s4, s5, s6, s7, s8, .u]) := fun s0 s1 s4 s5 s6 s7 s8 s9 =>
    comp_val (enc := D.int) (f := fun _ => D.bl true) [(p : Int), (k : Int)] rfl (by simp) rfl rfl fun n _ => ⟨[s0, s1, .i (.int rows.length), .i (eEx c rows p k), s4, s5, s6, s7, s8, .i (.int n)], rfl, rfl⟩
  have al : a1 opAll [.lst [.bl true, .bl true]] = some (.bl true) := rfl
  have ot := q_other h.m hk
  unfold g__law_is_exchange Pd.m__law_is_exchange
  refine run_rt rfl (ρ := [.i (.dic (encM eT D.int P)), .i (.int c), .i (.int rows.length), .i (eEx c rows p k), .i (eRows (exch rows k)), .i (.int (mvd p k)), .i (eRows rows), .i (.int p), .i (.int k), .u]) ?_
  show (sSeq _ _) [.i (.dic (encM eT D.int P)), .i (.int c), .i (.int rows.length), .i (eEx c rows p k), .u, .u, .u, .u, .u, .u] = _
  generalize D.dic (encM eT D.int P) = X at *
  generalize hE : eEx c rows p k = Y at *
  generalize eTab c rows = T at *
  generalize eRows (exch rows k) = R2 at *
  generalize eRows rows = R1 at *
  have n1 : ∀ (s4 s5 s6 s9 : Sl), eChain opLe opLt (eC (.int 0)) (eV 7) (eV 2) [.i X, .i (.int c), .i (.int rows.length), .i Y, s4, s5, s6, .i (.int p), .i (.int k), s9] = some (.bl true, [.i X, .i (.int c), .i (.int rows.length), .i Y, s4, s5, s6, .i (.int p), .i (.int k), s9]) := fun s4 s5 s6 s9 => chain_ok rfl rfl rfl (by omega) (by omega)
  have n2 : ∀ (s4 s5 s6 s9 : Sl), eChain opLe opLt (eC (.int 0)) (eV 8) (e2 opSub (eV 2) (eC (.int 1))) [.i X, .i (.int c), .i (.int rows.length), .i Y, s4, s5, s6, .i (.int p), .i (.int k), s9] = some (.bl true, [.i X, .i (.int c), .i (.int rows.length), .i Y, s4, s5, s6, .i (.int p), .i (.int k), s9]) := fun s4 s5 s6 s9 => chain_ok rfl rfl rfl (by omega) (by omega)
  have y1 : (sIf (tOr (tNot (tst (e1 (opIsi .tuple) (eV 3)))) (tOr (tst (e2 opNe (eCall (a1 opLen) [(eV 3)]) (eC (.int 3)))) (tOr (tNot (tst (e1 (opIsi (.cls .tab)) (e2 opIx (eV 3) (eC (.int 0)))))) (tOr (tst (e2 opNe (e1 (opPrp .tab g_Table_columns) (e2 opIx (eV 3) (eC (.int 0)))) (eV 1))) (tst (e2 opNe (e1 (opPrp .tab g_Table_height) (e2 opIx (eV 3) (eC (.int 0)))) (eV 2))))))) (sRet (eC (.bl false))) sNx) [.i X, .i (.int c), .i (.int rows.length), .i Y, .u, .u, .u, .u, .u, .u] = some (.nx, [.i X, .i (.int c), .i (.int rows.length), .i Y, .u, .u, .u, .u, .u, .u]) := by
    simp [i4, i3, i0, i5, t1, t2]
  rw [sSeq_ap, y1, Option.bind_some]
  dsimp only
  have y2 : (sPar3 6 7 8 (eCall g__law_plain [(e1 (opPrp .tab g_Table_rows) (e2 opIx (eV 3) (eC (.int 0))))]) (e2 opIx (eV 3) (eC (.int 1))) (e2 opIx (eV 3) (eC (.int 2)))) [.i X, .i (.int c), .i (.int rows.length), .i Y, .u, .u, .u, .u, .u, .u] = some (.nx, [.i X, .i (.int c), .i (.int rows.length), .i Y, .u, .u, .i R1, .i (.int p), .i (.int k), .u]) := by
    generalize D.lst (rows.map eLs) = Z at *
    simp [sPar3, i0, i1, i2, t3, t4]
  rw [sSeq_ap, y2, Option.bind_some]
  dsimp only
  have y3 : (sIf (tOr (tNot (tst (eCall (a1 opAll) [(eComp [9] (iT (eCut (eV 3) (some (eC (.int 1))) none)) (gN 9) tYes (e1 (opIsi .int) (eV 9)))]))) (tOr (tNot (tst (eChain opLe opLt (eC (.int 0)) (eV 7) (eV 2)))) (tNot (tst (eChain opLe opLt (eC (.int 0)) (eV 8) (e2 opSub (eV 2) (eC (.int 1)))))))) (sRet (eC (.bl false))) sNx) [.i X, .i (.int c), .i (.int rows.length), .i Y, .u, .u, .i R1, .i (.int p), .i (.int k), .u] = some (.nx, [.i X, .i (.int c), .i (.int rows.length), .i Y, .u, .u, .i R1, .i (.int p), .i (.int k), .u]) := by
    simp [c1, al, n1, n2]
  rw [sSeq_ap, y3, Option.bind_some]
  dsimp only
  rw [sSeq_ap, sAsg_ap, ot, Option.bind_some]
  simp [mv, mkRat1_eq, r1, r2, a1', a2', ne]
end Pm
end
section
set_option Elab.async false
set_option linter.all false
set_option maxRecDepth 100000
set_option maxHeartbeats 4000000
/-! PmFn35: _law_rows; orders. -/
namespace Pm
open Pd
theorem q_law_rows {d : D} (h : Pot d) {c m : Nat} (hc : c ≤ 2) (hm : m ≤ 3) : ∃ (rows : List Ltr) (d' : D), (rows.length = m ∧ (∀ r ∈ rows, RowOk c r) ∧ Pot d') ∧ g__law_rows d [.int c, .int m] = some (eRows rows, d') := by
  have row : ∀ d s3, Pot d → ∃ (r : Ltr) (d' : D), (RowOk c r ∧ Pot d') ∧ eComp [4] (iRng (eV 1)) (gN 4) tYes (e2 opSub (eCallO g__law_draw 0 [(eC (.int 6))]) (eC (.int 2))) [.o d, .i (.int c), .i (.int m), s3, .u] = some (eRow r, [.o d', .i (.int c), .i (.int m), s3, .u]) := by
    intro d s3 h
    obtain ⟨ys, ρ', h1, ⟨d', hd', rfl⟩, h3, h4⟩ := eComp_st (α := Nat) (β := Int) (vs := [4]) (i := iRng (eV 1)) (g := gN 4) (t := tYes) (e := e2 opSub (eCallO g__law_draw 0 [(eC (.int 6))]) (eC (.int 2))) (enc := fun (j : Nat) => D.int j) (f := D.int) (ρ := [.o d, .i (.int c), .i (.int m), s3, .u]) (ρ1 := [.o d, .i (.int c), .i (.int m), s3, .u])
      (fun ρ => ∃ d, Pot d ∧ ρ = [.o d, .i (.int c), .i (.int m), s3, .u]) (fun y => -2 ≤ y ∧ y ≤ 3) (fun ρ ⟨d, _, hρ⟩ => by subst hρ; rfl) (List.range c) (iRng_ap (eV 1) _ c _ rfl (by omega) (by omega)) (by rw [List.length_range]; omega) ⟨d, h, rfl⟩ (fun x _ ρ ⟨d, hd, hρ⟩ => by
        subst hρ
        obtain ⟨r, d', k1, k2, k3, k4⟩ := m_draw hd (m := 6) (by omega) (by omega)
        exact ⟨[.o d', .i (.int c), .i (.int m), s3, .i (.int x)], r - 2, by simp [turn, k1], ⟨d', k4, rfl⟩, by omega, by omega⟩)
    exact ⟨ys, d', ⟨⟨by rw [h3, List.length_range], h4⟩, hd'⟩, h1⟩
  obtain ⟨ys, ρ', h1, ⟨d', hd', rfl⟩, h3, h4⟩ := eComp_st (α := Nat) (β := Ltr) (vs := [3]) (i := iRng (eV 2)) (g := gN 3) (t := tYes) (e := eComp [4] (iRng (eV 1)) (gN 4) tYes (e2 opSub (eCallO g__law_draw 0 [(eC (.int 6))]) (eC (.int 2)))) (enc := fun (j : Nat) => D.int j) (f := eRow) (ρ := [.o d, .i (.int c), .i (.int m), .u, .u]) (ρ1 := [.o d, .i (.int c), .i (.int m), .u, .u])
    (fun ρ => ∃ d, Pot d ∧ ρ = [.o d, .i (.int c), .i (.int m), .u, .u]) (RowOk c) (fun ρ ⟨d, _, hρ⟩ => by subst hρ; rfl) (List.range m) (iRng_ap (eV 2) _ m _ rfl (by omega) (by omega)) (by rw [List.length_range]; omega) ⟨d, h, rfl⟩ (fun x _ ρ ⟨d, hd, hρ⟩ => by
      subst hρ
      obtain ⟨r, d', ⟨k1, k2⟩, k3⟩ := row d (.i (.int x)) hd
      exact ⟨[.o d', .i (.int c), .i (.int m), .i (.int x), .u], r, by simp [turn, k3], ⟨d', k2, rfl⟩, k1⟩)
  refine ⟨ys, d', ⟨by rw [h3, List.length_range], h4, hd'⟩, ?_⟩
  simp [g__law_rows, m__law_rows, runO, envOfO, h1, eRows]
def perms : Nat → List (List Nat)
  | 1 => [[0]]
  | 2 => [[0, 1], [1, 0]]
  | 3 => [[0, 1, 2], [0, 2, 1], [1, 0, 2], [1, 2, 0], [2, 0, 1], [2, 1, 0]]
  | _ => []
def eO (os : List Nat) : D := .tup (os.map fun (i : Nat) => D.int i)
theorem arrI1 : g__law_arranged 6 [.lst [.int 0]] = some (.lst [.tup [.int 0]]) := by rfl
theorem arrI2 : g__law_arranged 6 [.lst [.int 0, .int 1]] = some (.lst [.tup [.int 0, .int 1], .tup [.int 1, .int 0]]) := by rfl
theorem arrI3 : g__law_arranged 6 [.lst [.int 0, .int 1, .int 2]] = some (.lst [.tup [.int 0, .int 1, .int 2], .tup [.int 0, .int 2, .int 1], .tup [.int 1, .int 0, .int 2], .tup [.int 1, .int 2, .int 0], .tup [.int 2, .int 0, .int 1], .tup [.int 2, .int 1, .int 0]]) := by rfl
theorem q_arrI {n : Nat} (h1 : 1 ≤ n) (h3 : n ≤ 3) : g__law_arranged 6 [.lst ((List.range n).map fun (i : Nat) => D.int i)] = some (.lst ((perms n).map eO)) := by
  have : n = 1 ∨ n = 2 ∨ n = 3 := by omega
  rcases this with rfl | rfl | rfl
  · exact arrI1
  · exact arrI2
  · exact arrI3
theorem ne_ints (L : List Int) : opNe (.lst (L.map D.int)) (.lst (L.map D.int)) = some (.bl false) := by
  have h1 : flat (.lst (L.map D.int)) = true := by rw [flat]; exact flats_map (fun i => by rw [flat]) L
  have h2 : depth (.lst (L.map D.int)) ≤ 8 := by
    rw [depth]
    have := depths_map (e := D.int) (n := 0) (fun a => by simp [depth]) L
    omega
  have h3 : opEq (.lst (L.map D.int)) (.lst (L.map D.int)) = some (.bl true) := by
    unfold opEq
    dsimp only
    rw [if_pos ⟨h1, h1, h2, h2⟩, eqv, eqvs_map int_eq]
    simp
  unfold opNe
  rw [h3]
  rfl
/-- in every order each row keeps its result -/
theorem orders_ok {P : Prt} (ok : OkP P) (c1 : Cl mv1 P) (c2 : Cl mv2 P) {rows : List Ltr} (h1 : 1 ≤ rows.length) (h3 : rows.length ≤ 3) : ∀ os ∈ perms rows.length, (∀ i ∈ os, i < rows.length) ∧ os.length = rows.length ∧ (List.range rows.length).map (res P (os.map fun i => rows.getD i [])) = os.map (res P rows) := by
  match rows, h1, h3 with
  | [r], _, _ =>
    intro os hos
    simp [perms] at hos
    subst hos
    simp [List.range_succ]
  | [r, s], _, _ =>
    have f1 := fr2 ok c1 c2 r s
    have f2 := fr2 ok c1 c2 s r
    intro os hos
    simp [perms] at hos
    rcases hos with z | z <;> subst z <;> simp [List.range_succ, f1, f2]
  | [r, s, u], _, _ =>
    obtain ⟨a1, a2, a3, a4, a5⟩ := fr3 ok c1 c2 r s u
    obtain ⟨b1, b2, b3, b4, b5⟩ := fr3 ok c1 c2 s r u
    obtain ⟨d1, d2, d3, d4, d5⟩ := fr3 ok c1 c2 u r s
    intro os hos
    simp [perms] at hos
    rcases hos with z | z | z | z | z | z <;> subst z <;> simp [List.range_succ] <;> refine ⟨?_, ?_, ?_⟩ <;> omega
end Pm
end
section
set_option Elab.async false
set_option linter.all false
set_option maxRecDepth 100000
set_option maxHeartbeats 4000000
/-! PmFn36: the law: where something bars. -/
namespace Pm
open Pd
theorem okp {c : Nat} {P : Prt} (h : FQ c P) : OkP P := ⟨h.nd, fun p hp => (h.ok p hp).s⟩
theorem res_perm {P F : Prt} (h : F.Perm P) (rows : List Ltr) (p : Nat) : res F rows p = res P rows p := sumM_perm _ h
/-- what a drawn form gives -/
structure Frm (c : Nat) (P F : Prt) (B : List Key) (H : List Int) : Prop where
  c2 : c ≤ 2
  q : FQ c P
  nz : ∀ p ∈ P, p.2 ≠ 0
  l : P.length ≤ 12
  pm : F.Perm P
  made : make .frm g_Form_init [.int c, eHP P] = some (eF c F)
  hb : ∀ k, k ∈ B ↔ ∃ p ∈ F, key p.1 = k ∧ ¬ alike F p.1
  bl : B.length ≤ 400
  gb : g_barring_at [.lst (F.map eFp)] = some (.lst (B.map eK))
  hn : H = [] ↔ ∀ p ∈ P, alike P p.1
  hm : ∀ x rest, H = x :: rest → (∃ p ∈ P, ¬ alike P p.1 ∧ (len p.1 : Int) + 1 = x) ∧ ∀ p ∈ P, ¬ alike P p.1 → x ≤ (len p.1 : Int) + 1
  gh : g__law_held [.dic (encM eT D.int P)] = some (.lst (H.map D.int))
theorem frm_ex {c : Nat} {P : Prt} (hc : c ≤ 2) (q : FQ c P) (nz : ∀ p ∈ P, p.2 ≠ 0) (l : P.length ≤ 12) : ∃ F B H, Frm c P F B H := by
  obtain ⟨F, pm, mk⟩ := q_form (c := c) (by omega) q.nd nz (by omega) q.ok
  have okF : OkP F := ⟨(pm.map _).nodup_iff.mpr q.nd, fun p hp => (q.ok p (pm.mem_iff.mp hp)).s⟩
  have hl : F.length ≤ 400 := by rw [pm.length_eq]; omega
  obtain ⟨B, hb, bl, gb⟩ := q_barring_at okF (fun p hp => nz p (pm.mem_iff.mp hp)) (fun p hp => q.ok p (pm.mem_iff.mp hp)) hl
  obtain ⟨H, h1, h2, h3, h4⟩ := q_law_held (okp q) q.ok (by omega)
  exact ⟨F, B, H, hc, q, nz, l, pm, mk, hb, bl, gb, h1, h2, h4⟩
section
variable {c : Nat} {P F : Prt} {B : List Key} {H : List Int} (h : Frm c P F B H)
include h
theorem Frm.okF : OkP F := ⟨(h.pm.map _).nodup_iff.mpr h.q.nd, fun p hp => (h.q.ok p (h.pm.mem_iff.mp hp)).s⟩
theorem Frm.nzF : ∀ p ∈ F, p.2 ≠ 0 := fun p hp => h.nz p (h.pm.mem_iff.mp hp)
theorem Frm.tF : ∀ p ∈ F, TrmOk c p.1 := fun p hp => h.q.ok p (h.pm.mem_iff.mp hp)
theorem Frm.lF : F.length ≤ 400 := by rw [h.pm.length_eq]; have := h.l; omega
theorem Frm.al (t : Trm) : alike P t ↔ alike F t := alike_perm h.q.nd h.okF.nd h.pm.symm t
theorem Frm.bn : B = [] ↔ H = [] := by
  rw [h.hn]
  constructor
  · intro hB p hp
    refine Decidable.byContradiction fun z => ?_
    have := (h.hb (key p.1)).mpr ⟨p, h.pm.mem_iff.mpr hp, rfl, fun y => z ((h.al _).mpr y)⟩
    rw [hB] at this
    cases this
  · intro ha
    cases hB : B with
    | nil => rfl
    | cons k r =>
      obtain ⟨p, hp, _, hn⟩ := (h.hb k).mp (by rw [hB]; exact List.mem_cons_self)
      exact absurd ((h.al _).mp (ha p (h.pm.mem_iff.mp hp))) hn
theorem Frm.free : g_is_free_at [eF c F] = some (.bl (decide (H = []))) := by
  rw [q_is_free_at h.gb]
  congr 2
  rw [decide_eq_decide]
  exact h.bn
theorem Frm.told0 (hH : H = []) : g_exchange_at [eF c F] = some .non := by
  have hB := h.bn.mpr hH
  have := h.gb
  rw [hB] at this
  exact exch_none this
theorem Frm.told1 {x : Int} {rest : List Int} (hH : H = x :: rest) : ∃ (n : Nat) (rows : List Ltr) (pos k : Nat), x = n ∧ n ≤ 3 ∧ FoundR c n F rows pos k ∧ g_exchange_at [eF c F] = some (eEx c rows pos k) := by
  obtain ⟨⟨p, hp, hpa, hpx⟩, hmin⟩ := h.hm x rest hH
  have hpF : p ∈ F := h.pm.mem_iff.mpr hp
  have hpaF : ¬ alike F p.1 := fun y => hpa ((h.al _).mpr y)
  have hs := (h.q.ok p hp).s
  have h0 : len p.1 ≠ 0 := fun z => hpa (alike0 z)
  have minF : ∀ q ∈ F, ¬ alike F q.1 → len p.1 ≤ len q.1 := fun q hq hqa => by
    have := hmin q (h.pm.mem_iff.mp hq) (fun y => hqa ((h.al _).mp y))
    omega
  have hBn : B ≠ [] := fun z => by
    have := h.bn.mp z
    rw [hH] at this
    cases this
  obtain ⟨r, ⟨rows, pos, k, hf, rfl⟩, hr⟩ := ex_run (c := c) (n := len p.1 + 1) (F := F) h.c2 h.okF h.nzF h.tF h.lF (by omega) (fun q hq hl => by
      refine Decidable.byContradiction fun z => ?_
      have := minF q hq z
      omega) ⟨p, hpF, rfl, hpaF⟩ hBn h.bl h.gb ⟨key p.1, (h.hb _).mpr ⟨p, hpF, rfl, hpaF⟩, by rw [key_len], fun a ha => by
      obtain ⟨q, hq, hqk, hqa⟩ := (h.hb a).mp ha
      rw [← hqk, key_len, key_len]
      exact minF q hq hqa⟩
  exact ⟨len p.1 + 1, rows, pos, k, by omega, by omega, hf, hr⟩
end
theorem mvd_mvd {p k : Nat} : mvd (mvd p k) k = p := by
  unfold mvd
  by_cases h1 : p = k
  · subst h1
    simp
  · by_cases h2 : p = k + 1
    · subst h2
      simp [h1]
    · simp [h1, h2]
/-- what is asked of the told exchange -/
theorem told_ok {c : Nat} {P F : Prt} {B : List Key} {H : List Int} (h : Frm c P F B H) {n : Nat} (hn : n ≤ 3) {rows : List Ltr} {pos k : Nat} (hf : FoundR c n F rows pos k) :
    g__law_is_exchange [.dic (encM eT D.int P), .int c, .int n, eEx c rows pos k] = some (.bl true) ∧ g_is_exchange_at [eF c F, eEx c rows pos k] = some (.bl true) ∧
    g_exchanged [eTab c rows, .int k] = some (eTab c (exch rows k)) ∧ g__law_moved [.int pos, .int k] = some (.int (mvd pos k)) ∧ g_is_exchange_at [eF c F, eEx c (exch rows k) (mvd pos k) k] = some (.bl true) := by
  have hl := hf.l
  subst hl
  have fit : FitP c P rows := ⟨h.c2, h.q.nd, h.q.ok, hf.r, by have := h.l; omega, hn⟩
  have r1 := q_law_is_exchange fit hf.hp hf.hk
  have r2 := q_is_exchange_at h.c2 hf.r hn h.tF h.lF hf.hp hf.hk
  have r3 := q_is_exchange_at (rows := exch rows k) (p := mvd pos k) (k := k) h.c2 (fun r hr => hf.r r (exch_mem _ _ _ hr)) (by rw [exch_length]; exact hn) h.tF h.lF (by rw [exch_length]; exact mvd_lt hf.hp hf.hk) (by rw [exch_length]; exact hf.hk)
  have ne := hf.ne
  have ne' := hf.ne
  rw [res_perm h.pm, res_perm h.pm] at ne'
  rw [exch_exch, mvd_mvd] at r3
  rw [decide_eq_false ne'] at r1
  rw [decide_eq_false ne] at r2
  rw [decide_eq_false (fun z => ne z.symm)] at r3
  exact ⟨r1, r2, q_exchanged (fun r hr => (hf.r r hr).len) (by have := h.c2; omega) hn hf.hk, q_law_moved pos k, r3⟩
end Pm
end
section
set_option Elab.async false
set_option linter.all false
set_option maxRecDepth 100000
set_option maxHeartbeats 4000000
/-! PmFn37: the law. -/
namespace Pm
open Pd
theorem eq_bl (a b : Bool) : opEq (.bl a) (.bl b) = some (.bl (decide (a = b))) := rfl
theorem eq_rb (a b : Bool) : opEq (.rb a) (.rb b) = some (.bl (decide (a = b))) := rfl
theorem ne_bl (a : Bool) : opNe (.bl a) (.bl a) = some (.bl false) := by cases a <;> rfl
theorem ne_rb (a : Bool) : opNe (.rb a) (.rb a) = some (.bl false) := by cases a <;> rfl
theorem repr_bl (a : Bool) : a1 opRepr [.bl a] = some (.rb a) := rfl
theorem eqH (H : List Int) : opEq (.lst (H.map D.int)) (.lst []) = some (.bl (decide (H = []))) := eq_lsts (fun i => by rw [flat]) (fun i => by simp [depth]) H
theorem neH (H : List Int) : opNe (.lst (H.map D.int)) (.lst []) = some (.bl (!decide (H = []))) := by
  unfold opNe
  rw [eqH]
theorem isN_ex (c : Nat) (rows : List Ltr) (p k : Nat) : opIsN (eEx c rows p k) = some (.bl false) := rfl
/-- one order -/
abbrev riB : S := (sSeq (sAsg (eComp [11] (iT (eV 6)) (gN 11) tYes (e2 opIx (eV 4) (eV 11))) (gN 10))
    (sIf (tst (e2 opNe (eComp [13] (iRng (eCall (a1 opLen) [(eV 4)])) (gN 13) tYes (eCall g__law_result [(eV 2), (eV 10), (eV 13)])) (eComp [11] (iT (eV 6)) (gN 11) tYes (e2 opIx (eV 5) (eV 11))))) (sRet (eC (.bl false))) sNx))
theorem ri_turn {c : Nat} {P : Prt} {rows : List Ltr} (fit : FitP c P rows) {os : List Nat} (h1 : ∀ i ∈ os, i < rows.length) (h2 : os.length = rows.length) (h3 : (List.range rows.length).map (res P (os.map fun i => rows.getD i [])) = os.map (res P rows)) (s0 s1 s3 s7 s8 s9 s10 s11 s12 s13 : Sl) :
    ∃ s10' s11' s13', riB [s0, s1, .i (.dic (encM eT D.int P)), s3, .i (eRows rows), .i (.lst ((List.range rows.length).map fun i => D.int (res P rows i))), .i (eO os), s7, s8, s9, s10, s11, s12, s13] = some (.nx, [s0, s1, .i (.dic (encM eT D.int P)), s3, .i (eRows rows), .i (.lst ((List.range rows.length).map fun i => D.int (res P rows i))), .i (eO os), s7, s8, s9, s10', s11', s12, s13']) := by
  have hm := fit.m
  let here : List Ltr := os.map fun i => rows.getD i []
  have hlen : here.length = rows.length := by show (os.map _).length = _; rw [List.length_map]; exact h2
  have fit' : FitP c P here := ⟨fit.c2, fit.nd, fit.t, fun r hr => by
    obtain ⟨i, hi, rfl⟩ := List.mem_map.mp hr
    have := h1 i hi
    rw [List.getD_eq_getElem?_getD, List.getElem?_eq_getElem this, Option.getD_some]
    exact fit.r _ (List.getElem_mem this), fit.n, by rw [hlen]; exact hm⟩
  generalize hB : D.lst ((List.range rows.length).map fun i => D.int (res P rows i)) = Bs
  have hBs : ∀ i, i < rows.length → opIx Bs (.int i) = some (.int (res P rows i)) := fun i hi => by
    rw [← hB]
    show atD _ _ = _
    unfold atD
    rw [if_pos (by omega), Int.toNat_natCast, List.getElem?_map, List.getElem?_range hi]
    rfl
  have k1 : eComp [11] (iT (eV 6)) (gN 11) tYes (e2 opIx (eV 4) (eV 11)) [s0, s1, .i (.dic (encM eT D.int P)), s3, .i (eRows rows), .i Bs, .i (eO os), s7, s8, s9, s10, s11, s12, s13] = some (eRows here, [s0, s1, .i (.dic (encM eT D.int P)), s3, .i (eRows rows), .i Bs, .i (eO os), s7, s8, s9, s10, .u, s12, s13]) := by
    show _ = some (D.lst ((os.map fun i => rows.getD i []).map eRow), _)
    rw [List.map_map]
    refine comp_val (ρ1 := [s0, s1, .i (.dic (encM eT D.int P)), s3, .i (eRows rows), .i Bs, .i (eO os), s7, s8, s9, s10, s11, s12, s13]) (enc := fun (i : Nat) => D.int i) os rfl (by omega) rfl rfl fun i hi => ⟨[s0, s1, .i (.dic (encM eT D.int P)), s3, .i (eRows rows), .i Bs, .i (eO os), s7, s8, s9, s10, .i (.int i), s12, s13], ?_, rfl⟩
    have hi := h1 i hi
    have ix : opIx (eRows rows) (.int i) = some (eRow (rows.getD i [])) := by
      show atD (rows.map eRow) i = _
      unfold atD
      rw [if_pos (by omega), Int.toNat_natCast, List.getElem?_map, List.getElem?_eq_getElem hi, List.getD_eq_getElem?_getD, List.getElem?_eq_getElem hi]
      rfl
    show turn _ _ _ _ _ = some (some (eRow (rows.getD i [])), _)
    generalize eRow (rows.getD i []) = Y at *
    generalize eRows rows = R at *
    generalize D.dic (encM eT D.int P) = X at *
    generalize eO os = O at *
    simp [turn, ix]
  have r1 : ∀ i, i < rows.length → g__law_result [.dic (encM eT D.int P), eRows here, .int i] = some (.int (res P here i)) := fun i hi => q_law_result fit' (by rw [hlen]; exact hi)
  have ln : a1 opLen [eRows rows] = some (.int rows.length) := by unfold eRows; rw [len_lst, List.length_map]
  have k2 : eComp [13] (iRng (eCall (a1 opLen) [(eV 4)])) (gN 13) tYes (eCall g__law_result [(eV 2), (eV 10), (eV 13)]) [s0, s1, .i (.dic (encM eT D.int P)), s3, .i (eRows rows), .i Bs, .i (eO os), s7, s8, s9, .i (eRows here), .u, s12, s13] = some (.lst (((List.range rows.length).map (res P here)).map D.int), [s0, s1, .i (.dic (encM eT D.int P)), s3, .i (eRows rows), .i Bs, .i (eO os), s7, s8, s9, .i (eRows here), .u, s12, .u]) := by
    rw [List.map_map]
    refine comp_val (ρ1 := [s0, s1, .i (.dic (encM eT D.int P)), s3, .i (eRows rows), .i Bs, .i (eO os), s7, s8, s9, .i (eRows here), .u, s12, s13]) (enc := fun (i : Nat) => D.int i) (List.range rows.length) (iRng_ap _ _ rows.length _ ?_ (by omega) (by omega)) (by rw [List.length_range]; omega) rfl rfl fun i hi => ⟨[s0, s1, .i (.dic (encM eT D.int P)), s3, .i (eRows rows), .i Bs, .i (eO os), s7, s8, s9, .i (eRows here), .u, s12, .i (.int i)], ?_, rfl⟩
    · generalize eRows rows = R at *
      simp [ln]
    · have := r1 i (List.mem_range.mp hi)
      show turn _ _ _ _ _ = some (some (.int (res P here i)), _)
      generalize eRows rows = R at *
      generalize D.dic (encM eT D.int P) = X at *
      generalize eRows here = R2 at *
      generalize eO os = O at *
      simp [turn, this]
  have k3 : eComp [11] (iT (eV 6)) (gN 11) tYes (e2 opIx (eV 5) (eV 11)) [s0, s1, .i (.dic (encM eT D.int P)), s3, .i (eRows rows), .i Bs, .i (eO os), s7, s8, s9, .i (eRows here), .u, s12, .u] = some (.lst ((os.map (res P rows)).map D.int), [s0, s1, .i (.dic (encM eT D.int P)), s3, .i (eRows rows), .i Bs, .i (eO os), s7, s8, s9, .i (eRows here), .u, s12, .u]) := by
    rw [List.map_map]
    refine comp_val (ρ1 := [s0, s1, .i (.dic (encM eT D.int P)), s3, .i (eRows rows), .i Bs, .i (eO os), s7, s8, s9, .i (eRows here), .u, s12, .u]) (enc := fun (i : Nat) => D.int i) os rfl (by omega) rfl rfl fun i hi => ⟨[s0, s1, .i (.dic (encM eT D.int P)), s3, .i (eRows rows), .i Bs, .i (eO os), s7, s8, s9, .i (eRows here), .i (.int i), s12, .u], ?_, rfl⟩
    have := hBs i (h1 i hi)
    show turn _ _ _ _ _ = some (some (.int (res P rows i)), _)
    generalize eRows rows = R at *
    generalize D.dic (encM eT D.int P) = X at *
    generalize eRows here = R2 at *
    generalize eO os = O at *
    simp [turn, this]
  have h3' : (List.range rows.length).map (res P here) = os.map (res P rows) := h3
  rw [h3'] at k2
  have nn := ne_ints (os.map (res P rows))
  refine ⟨.i (eRows here), .u, .u, ?_⟩
  unfold riB
  generalize D.lst ((os.map (res P rows)).map D.int) = L at *
  generalize eRows rows = R at *
  generalize D.dic (encM eT D.int P) = X at *
  generalize eRows here = R2 at *
  generalize eO os = O at *
  rw [sSeq_ap, sAsg_ap, k1, Option.bind_some]
  simp [k2, k3, nn]
theorem ri_loop {c : Nat} {P : Prt} {rows : List Ltr} (fit : FitP c P rows) (hos : ∀ os ∈ perms rows.length, (∀ i ∈ os, i < rows.length) ∧ os.length = rows.length ∧ (List.range rows.length).map (res P (os.map fun i => rows.getD i [])) = os.map (res P rows)) (s0 s1 s3 s7 s8 s9 s12 : Sl) :
    ∃ s6' s10' s11' s13', forL (gN 6) riB ((perms rows.length).map eO) [s0, s1, .i (.dic (encM eT D.int P)), s3, .i (eRows rows), .i (.lst ((List.range rows.length).map fun i => D.int (res P rows i))), .u, s7, s8, s9, .u, .u, s12, .u] = some (.nx, [s0, s1, .i (.dic (encM eT D.int P)), s3, .i (eRows rows), .i (.lst ((List.range rows.length).map fun i => D.int (res P rows i))), s6', s7, s8, s9, s10', s11', s12, s13']) := by
  obtain ⟨ρ', h1, s6', s10', s11', s13', _, hs⟩ := for_inv (g := gN 6) (b := riB) (enc := eO)
    (fun rem ρ => ∃ (s6' s10' s11' s13' : Sl), (∀ os ∈ rem, os ∈ perms rows.length) ∧ ρ = [s0, s1, .i (.dic (encM eT D.int P)), s3, .i (eRows rows), .i (.lst ((List.range rows.length).map fun i => D.int (res P rows i))), s6', s7, s8, s9, s10', s11', s12, s13']) (perms rows.length)
    [s0, s1, .i (.dic (encM eT D.int P)), s3, .i (eRows rows), .i (.lst ((List.range rows.length).map fun i => D.int (res P rows i))), .u, s7, s8, s9, .u, .u, s12, .u] ⟨_, _, _, _, fun os h => h, rfl⟩ (fun x ys ρ ⟨s6, s10, s11, s13, hin, hρ⟩ => by
      subst hρ
      obtain ⟨q1, q2, q3⟩ := hos x (hin x List.mem_cons_self)
      obtain ⟨t10, t11, t13, ht⟩ := ri_turn fit q1 q2 q3 s0 s1 s3 s7 s8 s9 s10 s11 s12 s13
      exact ⟨[s0, s1, .i (.dic (encM eT D.int P)), s3, .i (eRows rows), .i (.lst ((List.range rows.length).map fun i => D.int (res P rows i))), .i (eO x), s7, s8, s9, s10, s11, s12, s13], _, by simp, ht, _, _, _, _, fun os h => hin os (List.mem_cons_of_mem _ h), rfl⟩)
  exact ⟨s6', s10', s11', s13', by rw [h1, hs]⟩
end Pm
end
section
set_option Elab.async false
set_option linter.all false
set_option maxRecDepth 100000
set_option maxHeartbeats 4000000
/-! PmFn38: the law, whole. -/
namespace Pm
open Pd
abbrev lrA : S := (sAsg (e2 opIx (eLst [(eC (.int 0)), (eC (.int 1)), (eC (.int 1)), (eC (.int 2))]) (eCallO g__law_draw 0 [(eC (.int 4))])) (gN 1))
abbrev lrB : S := (sAsg (eCallO g__law_form 0 [(eV 1), (eC (.int 2))]) (gN 2))
abbrev lrC : S := (sPar 7 8 (eCall (make .frm g_Form_init) [(eV 1), (eComp [12] (iD (eV 2)) (gN 12) tYes (eTup [(eV 12), (e2 opIx (eV 2) (eV 12))]))]) (eCall g__law_held [(eV 2)]))
abbrev lrD : S := (sAsg (eCall g_exchange_at [(eV 7)]) (gN 3))
abbrev lrE : S := (sIf (tOr (tst (e2 opNe (eCall (a1 opRepr) [(eCall g_is_free_at [(eV 7)])]) (eCall (a1 opRepr) [(e2 opEq (eV 8) (eLst []))]))) (tst (e2 opNe (e1 opIsN (eV 3)) (e2 opEq (eV 8) (eLst []))))) (sRet (eC (.bl false))) sNx)
abbrev lrF : S := (sIf (tst (e2 opNe (eV 8) (eLst []))) (sSeq (sIf (tNot (tst (eCall g__law_is_exchange [(eV 2), (eV 1), (e2 opIx (eV 8) (eC (.int 0))), (eV 3)]))) (sRet (eC (.bl false))) sNx)
    (sSeq (sIf (tst (e2 opNotB (eCall (swp g_is_exchange_at) [(eV 3), (eV 7)]) (eC (.bl true)))) (sRet (eC (.bl false))) sNx)
    (sSeq (sAsg (eTup [(eCall g_exchanged [(e2 opIx (eV 3) (eC (.int 0))), (e2 opIx (eV 3) (eC (.int 2)))]), (eCall g__law_moved [(e2 opIx (eV 3) (eC (.int 1))), (e2 opIx (eV 3) (eC (.int 2)))]), (e2 opIx (eV 3) (eC (.int 2)))]) (gN 9))
    (sRet (e2 opIsB (eCall g_is_exchange_at [(eV 7), (eV 9)]) (eC (.bl true))))))) sNx)
abbrev lrG : S := (sSeq (sAsg (eCallO g__law_rows 0 [(eV 1), (e2 opAdd (eC (.int 1)) (eCallO g__law_draw 0 [(eC (.int 3))]))]) (gN 4))
    (sSeq (sAsg (eComp [11] (iRng (eCall (a1 opLen) [(eV 4)])) (gN 11) tYes (eCall g__law_result [(eV 2), (eV 4), (eV 11)])) (gN 5))
    (sSeq (sFor (iL (eCall (g__law_arranged 6) [(eLstRng (eCall (a1 opLen) [(eV 4)]))])) (gN 6) riB)
    (sRet (e2 opIsB (eCall g_is_free_at [(eV 7)]) (eC (.bl true)))))))
theorem lr_eq : m__law_right = sSeq lrA (sSeq lrB (sSeq lrC (sSeq lrD (sSeq lrE (sSeq lrF lrG))))) := rfl
theorem lr_ABC {d : D} (h : Pot d) : ∃ (d' : D) (c : Nat) (P F : Prt) (B : List Key) (H : List Int), Pot d' ∧ Frm c P F B H ∧ ∀ K : S, sSeq lrA (sSeq lrB (sSeq lrC K)) [.o d, .u, .u, .u, .u, .u, .u, .u, .u, .u, .u, .u, .u, .u] = K [.o d', .i (.int c), .i (.dic (encM eT D.int P)), .u, .u, .u, .u, .i (eF c F), .i (.lst (H.map D.int)), .u, .u, .u, .u, .u] := by
  obtain ⟨r, d1, r1, r2, r3, r4⟩ := m_draw h (m := 4) (by omega) (by omega)
  obtain ⟨c, hc, hr⟩ : ∃ n : Nat, n ≤ 2 ∧ opIx (.lst [.int 0, .int 1, .int 1, .int 2]) (.int r) = some (.int n) := by
    have : r = 0 ∨ r = 1 ∨ r = 2 ∨ r = 3 := by omega
    rcases this with rfl | rfl | rfl | rfl
    · exact ⟨0, by omega, rfl⟩
    · exact ⟨1, by omega, rfl⟩
    · exact ⟨1, by omega, rfl⟩
    · exact ⟨2, by omega, rfl⟩
  obtain ⟨P, d2, ⟨hd2, q, nz, l⟩, hf⟩ := q_law_form r4 hc
  obtain ⟨F, B, H, fr⟩ := frm_ex hc q nz l
  refine ⟨d2, c, P, F, B, H, hd2, fr, fun K => ?_⟩
  have yA : lrA [.o d, .u, .u, .u, .u, .u, .u, .u, .u, .u, .u, .u, .u, .u] = some (.nx, [.o d1, .i (.int c), .u, .u, .u, .u, .u, .u, .u, .u, .u, .u, .u, .u]) := by
    simp [lrA, r1, hr]
  have yB : lrB [.o d1, .i (.int c), .u, .u, .u, .u, .u, .u, .u, .u, .u, .u, .u, .u] = some (.nx, [.o d2, .i (.int c), .i (.dic (encM eT D.int P)), .u, .u, .u, .u, .u, .u, .u, .u, .u, .u, .u]) := by
    simp [lrB, hf]
  have kC : eComp [12] (iD (eV 2)) (gN 12) tYes (eTup [(eV 12), (e2 opIx (eV 2) (eV 12))]) [.o d2, .i (.int c), .i (.dic (encM eT D.int P)), .u, .u, .u, .u, .u, .u, .u, .u, .u, .u, .u] = some (eHP P, [.o d2, .i (.int c), .i (.dic (encM eT D.int P)), .u, .u, .u, .u, .u, .u, .u, .u, .u, .u, .u]) := by
    refine comp_val (ρ1 := [.o d2, .i (.int c), .i (.dic (encM eT D.int P)), .u, .u, .u, .u, .u, .u, .u, .u, .u, .u, .u]) (enc := fun p : Trm × Int => eT p.1) P ?_ (by omega) rfl rfl fun p hp => ⟨[.o d2, .i (.int c), .i (.dic (encM eT D.int P)), .u, .u, .u, .u, .u, .u, .u, .u, .u, .i (eT p.1), .u], ?_, rfl⟩
    · rw [iD_ap (eV 2) _ (encM eT D.int P) _ rfl]
      unfold encM
      rw [List.map_map]
      rfl
    · have k1 : opIx (.dic (encM eT D.int P)) (eT p.1) = some (.int p.2) := by rw [ix_enc encT dT, tget_some q.nd (v := p.2) hp]; rfl
      generalize D.dic (encM eT D.int P) = X at *
      simp [turn, k1]
  have yC : lrC [.o d2, .i (.int c), .i (.dic (encM eT D.int P)), .u, .u, .u, .u, .u, .u, .u, .u, .u, .u, .u] = some (.nx, [.o d2, .i (.int c), .i (.dic (encM eT D.int P)), .u, .u, .u, .u, .i (eF c F), .i (.lst (H.map D.int)), .u, .u, .u, .u, .u]) := by
    have m1 := fr.made
    have m2 := fr.gh
    generalize D.dic (encM eT D.int P) = X at *
    generalize D.lst (H.map D.int) = Y at *
    generalize eHP P = Z at *
    generalize eF c F = W at *
    simp [lrC, sPar, kC, m1, m2]
  rw [sSeq_ap, yA, Option.bind_some]
  dsimp only
  rw [sSeq_ap, yB, Option.bind_some]
  dsimp only
  rw [sSeq_ap, yC, Option.bind_some]
/-- something bars -/
theorem lr_bar {d : D} (h : Pot d) {c : Nat} {P F : Prt} {B : List Key} {H : List Int} (fr : Frm c P F B H) {x : Int} {rest : List Int} (hH : H = x :: rest) : ∃ ρ, sSeq lrD (sSeq lrE (sSeq lrF lrG)) [.o d, .i (.int c), .i (.dic (encM eT D.int P)), .u, .u, .u, .u, .i (eF c F), .i (.lst (H.map D.int)), .u, .u, .u, .u, .u] = some (.rt (.bl true), .o d :: ρ) := by
  obtain ⟨n, rows, pos, k, hx, hn, hf, ht⟩ := fr.told1 hH
  obtain ⟨t1, t2, t3, t4, t5⟩ := told_ok fr hn hf
  have f1 := fr.free
  have hHn : H ≠ [] := by rw [hH]; exact fun z => by cases z
  rw [decide_eq_false hHn] at f1
  have e1 := eqH H
  have e2 := neH H
  rw [decide_eq_false hHn] at e1 e2
  have i0 : opIx (.lst (H.map D.int)) (.int 0) = some (.int n) := by rw [hH, ← hx]; rfl
  have n1 := isN_ex c rows pos k
  have j0 : opIx (eEx c rows pos k) (.int 0) = some (eTab c rows) := rfl
  have j1 : opIx (eEx c rows pos k) (.int 1) = some (.int pos) := rfl
  have j2 : opIx (eEx c rows pos k) (.int 2) = some (.int k) := rfl
  have back : D.tup [eTab c (exch rows k), .int (mvd pos k), .int k] = eEx c (exch rows k) (mvd pos k) k := rfl
  have s2 : swp g_is_exchange_at [eEx c rows pos k, eF c F] = some (.bl true) := t2
  have nb : opNe (.bl false) (.bl false) = some (.bl false) := rfl
  have nr : opNe (.rb false) (.rb false) = some (.bl false) := rfl
  have rp : a1 opRepr [.bl false] = some (.rb false) := rfl
  have ib : opIsB (.bl true) (.bl true) = some (.bl true) := rfl
  have ob : opNotB (.bl true) (.bl true) = some (.bl false) := rfl
  refine ⟨[.i (.int c), .i (.dic (encM eT D.int P)), .i (eEx c rows pos k), .u, .u, .u, .i (eF c F), .i (.lst (H.map D.int)), .i (eEx c (exch rows k) (mvd pos k) k), .u, .u, .u, .u], ?_⟩
  generalize D.dic (encM eT D.int P) = X at *
  generalize D.lst (H.map D.int) = Y at *
  generalize eEx c rows pos k = E1 at *
  generalize eEx c (exch rows k) (mvd pos k) k = E2 at *
  generalize eTab c (exch rows k) = T2 at *
  generalize eTab c rows = T1 at *
  generalize eF c F = W at *
  have yD : lrD [.o d, .i (.int c), .i X, .u, .u, .u, .u, .i W, .i Y, .u, .u, .u, .u, .u] = some (.nx, [.o d, .i (.int c), .i X, .i E1, .u, .u, .u, .i W, .i Y, .u, .u, .u, .u, .u]) := by
    simp [lrD, ht]
  have yE : lrE [.o d, .i (.int c), .i X, .i E1, .u, .u, .u, .i W, .i Y, .u, .u, .u, .u, .u] = some (.nx, [.o d, .i (.int c), .i X, .i E1, .u, .u, .u, .i W, .i Y, .u, .u, .u, .u, .u]) := by
    simp [lrE, f1, e1, rp, nr, n1, nb]
  have yF : lrF [.o d, .i (.int c), .i X, .i E1, .u, .u, .u, .i W, .i Y, .u, .u, .u, .u, .u] = some (.rt (.bl true), [.o d, .i (.int c), .i X, .i E1, .u, .u, .u, .i W, .i Y, .i E2, .u, .u, .u, .u]) := by
    simp [lrF, e2, i0, t1, s2, ob, j0, j1, j2, t3, t4, back, t5, ib]
  rw [sSeq_ap, yD, Option.bind_some]
  dsimp only
  rw [sSeq_ap, yE, Option.bind_some]
  dsimp only
  rw [sSeq_ap, yF, Option.bind_some]
end Pm
end
section
set_option Elab.async false
set_option linter.all false
set_option maxRecDepth 100000
set_option maxHeartbeats 4000000
/-! PmFn39: the law, nothing bars; the plain law. -/
namespace Pm
open Pd
theorem lr_free {d : D} (h : Pot d) {c : Nat} {P F : Prt} {B : List Key} {H : List Int} (fr : Frm c P F B H) (hH : H = []) : ∃ d' ρ, sSeq lrD (sSeq lrE (sSeq lrF lrG)) [.o d, .i (.int c), .i (.dic (encM eT D.int P)), .u, .u, .u, .u, .i (eF c F), .i (.lst (H.map D.int)), .u, .u, .u, .u, .u] = some (.rt (.bl true), .o d' :: ρ) := by
  have ht := fr.told0 hH
  have f1 := fr.free
  rw [decide_eq_true hH] at f1
  have g1 := eqH H
  have g2 := neH H
  rw [decide_eq_true hH] at g1 g2
  obtain ⟨m, d1, m1, m2, m3, m4⟩ := m_draw h (m := 3) (by omega) (by omega)
  obtain ⟨n, hn⟩ : ∃ n : Nat, (n : Int) = 1 + m := ⟨(1 + m).toNat, by omega⟩
  obtain ⟨rows, d2, ⟨l1, l2, l3⟩, hrw⟩ := q_law_rows m4 fr.c2 (m := n) (by omega)
  have okP := okp fr.q
  obtain ⟨c1, c2⟩ := cl_alike okP fr.nz (fr.hn.mp hH)
  have fit : FitP c P rows := ⟨fr.c2, fr.q.nd, fr.q.ok, l2, by have := fr.l; omega, by omega⟩
  obtain ⟨s6', s10', s11', s13', hl⟩ := ri_loop fit (orders_ok okP c1 c2 (by omega) (by omega)) (.o d2) (.i (.int c)) (.i .non) (.i (eF c F)) (.i (.lst (H.map D.int))) .u .u
  have harr := q_arrI (n := rows.length) (by omega) (by omega)
  have ln : a1 opLen [eRows rows] = some (.int rows.length) := by unfold eRows; rw [len_lst, List.length_map]
  have hb : eComp [11] (iRng (eCall (a1 opLen) [(eV 4)])) (gN 11) tYes (eCall g__law_result [(eV 2), (eV 4), (eV 11)]) [.o d2, .i (.int c), .i (.dic (encM eT D.int P)), .i .non, .i (eRows rows), .u, .u, .i (eF c F), .i (.lst (H.map D.int)), .u, .u, .u, .u, .u] = some (.lst ((List.range rows.length).map fun i => D.int (res P rows i)), [.o d2, .i (.int c), .i (.dic (encM eT D.int P)), .i .non, .i (eRows rows), .u, .u, .i (eF c F), .i (.lst (H.map D.int)), .u, .u, .u, .u, .u]) := by
    refine comp_val (ρ1 := [.o d2, .i (.int c), .i (.dic (encM eT D.int P)), .i .non, .i (eRows rows), .u, .u, .i (eF c F), .i (.lst (H.map D.int)), .u, .u, .u, .u, .u]) (enc := fun (i : Nat) => D.int i) (List.range rows.length) (iRng_ap _ _ rows.length _ ?_ (by omega) (by omega)) (by rw [List.length_range]; omega) rfl rfl fun i hi => ⟨[.o d2, .i (.int c), .i (.dic (encM eT D.int P)), .i .non, .i (eRows rows), .u, .u, .i (eF c F), .i (.lst (H.map D.int)), .u, .u, .i (.int i), .u, .u], ?_, rfl⟩
    · generalize eRows rows = R at *
      simp [ln]
    · have := q_law_result fit (List.mem_range.mp hi)
      generalize eRows rows = R at *
      generalize D.dic (encM eT D.int P) = X at *
      generalize D.lst (H.map D.int) = Y at *
      simp [turn, this]
  have hit : iL (eCall (g__law_arranged 6) [(eLstRng (eCall (a1 opLen) [(eV 4)]))]) [.o d2, .i (.int c), .i (.dic (encM eT D.int P)), .i .non, .i (eRows rows), .i (.lst ((List.range rows.length).map fun i => D.int (res P rows i))), .u, .i (eF c F), .i (.lst (H.map D.int)), .u, .u, .u, .u, .u] = some ((perms rows.length).map eO, [.o d2, .i (.int c), .i (.dic (encM eT D.int P)), .i .non, .i (eRows rows), .i (.lst ((List.range rows.length).map fun i => D.int (res P rows i))), .u, .i (eF c F), .i (.lst (H.map D.int)), .u, .u, .u, .u, .u]) := by
    refine iL_ap _ _ _ _ ?_
    have hr : eLstRng (eCall (a1 opLen) [(eV 4)]) [.o d2, .i (.int c), .i (.dic (encM eT D.int P)), .i .non, .i (eRows rows), .i (.lst ((List.range rows.length).map fun i => D.int (res P rows i))), .u, .i (eF c F), .i (.lst (H.map D.int)), .u, .u, .u, .u, .u] = some (.lst ((List.range rows.length).map fun (i : Nat) => D.int i), [.o d2, .i (.int c), .i (.dic (encM eT D.int P)), .i .non, .i (eRows rows), .i (.lst ((List.range rows.length).map fun i => D.int (res P rows i))), .u, .i (eF c F), .i (.lst (H.map D.int)), .u, .u, .u, .u, .u]) := by
      unfold eLstRng
      rw [bnd_some (a := D.int rows.length) (ρ' := [.o d2, .i (.int c), .i (.dic (encM eT D.int P)), .i .non, .i (eRows rows), .i (.lst ((List.range rows.length).map fun i => D.int (res P rows i))), .u, .i (eF c F), .i (.lst (H.map D.int)), .u, .u, .u, .u, .u]) (by
        generalize eRows rows = R at *
        simp [ln])]
      show (if (0 : Int) ≤ (rows.length : Int) ∧ (rows.length : Int) ≤ 1000000 then Pd.ret (D.lst ((List.range ((rows.length : Int)).toNat).map fun (j : Nat) => D.int j)) else Pd.fail) _ = _
      rw [if_pos ⟨by omega, by omega⟩, Int.toNat_natCast]
      rfl
    generalize g__law_arranged 6 = ga at *
    rw [eCall_ap, args_cons, hr, Option.bind_some, args_nil, Option.bind_some, Option.bind_some]
    dsimp only
    rw [harr]
    rfl
  have nb : opNe (.bl true) (.bl true) = some (.bl false) := rfl
  have nr : opNe (.rb true) (.rb true) = some (.bl false) := rfl
  have rp : a1 opRepr [.bl true] = some (.rb true) := rfl
  have n1 : opIsN .non = some (.bl true) := rfl
  have ib : opIsB (.bl true) (.bl true) = some (.bl true) := rfl
  refine ⟨d2, [.i (.int c), .i (.dic (encM eT D.int P)), .i .non, .i (eRows rows), .i (.lst ((List.range rows.length).map fun i => D.int (res P rows i))), s6', .i (eF c F), .i (.lst (H.map D.int)), .u, s10', s11', .u, s13'], ?_⟩
  generalize D.lst ((List.range rows.length).map fun i => D.int (res P rows i)) = L at *
  generalize D.dic (encM eT D.int P) = X at *
  generalize D.lst (H.map D.int) = Y at *
  generalize eRows rows = R at *
  generalize eF c F = W at *
  have yD : lrD [.o d, .i (.int c), .i X, .u, .u, .u, .u, .i W, .i Y, .u, .u, .u, .u, .u] = some (.nx, [.o d, .i (.int c), .i X, .i .non, .u, .u, .u, .i W, .i Y, .u, .u, .u, .u, .u]) := by
    simp [lrD, ht]
  have yE : lrE [.o d, .i (.int c), .i X, .i .non, .u, .u, .u, .i W, .i Y, .u, .u, .u, .u, .u] = some (.nx, [.o d, .i (.int c), .i X, .i .non, .u, .u, .u, .i W, .i Y, .u, .u, .u, .u, .u]) := by
    simp [lrE, f1, g1, rp, nr, n1, nb]
  have yF : lrF [.o d, .i (.int c), .i X, .i .non, .u, .u, .u, .i W, .i Y, .u, .u, .u, .u, .u] = some (.nx, [.o d, .i (.int c), .i X, .i .non, .u, .u, .u, .i W, .i Y, .u, .u, .u, .u, .u]) := by
    rw [show lrF = sIf (tst (e2 opNe (eV 8) (eLst []))) _ sNx from rfl, sIf_ap]
    simp [g2]
  have yG1 : (sAsg (eCallO g__law_rows 0 [(eV 1), (e2 opAdd (eC (.int 1)) (eCallO g__law_draw 0 [(eC (.int 3))]))]) (gN 4)) [.o d, .i (.int c), .i X, .i .non, .u, .u, .u, .i W, .i Y, .u, .u, .u, .u, .u] = some (.nx, [.o d2, .i (.int c), .i X, .i .non, .i R, .u, .u, .i W, .i Y, .u, .u, .u, .u, .u]) := by
    rw [hn] at hrw
    simp [m1, hrw]
  have yG2 : (sAsg (eComp [11] (iRng (eCall (a1 opLen) [(eV 4)])) (gN 11) tYes (eCall g__law_result [(eV 2), (eV 4), (eV 11)])) (gN 5)) [.o d2, .i (.int c), .i X, .i .non, .i R, .u, .u, .i W, .i Y, .u, .u, .u, .u, .u] = some (.nx, [.o d2, .i (.int c), .i X, .i .non, .i R, .i L, .u, .i W, .i Y, .u, .u, .u, .u, .u]) := by
    rw [sAsg_ap, hb]
    rfl
  have yG : lrG [.o d, .i (.int c), .i X, .i .non, .u, .u, .u, .i W, .i Y, .u, .u, .u, .u, .u] = some (.rt (.bl true), [.o d2, .i (.int c), .i X, .i .non, .i R, .i L, s6', .i W, .i Y, .u, s10', s11', .u, s13']) := by
    unfold lrG
    rw [sSeq_ap, yG1, Option.bind_some]
    dsimp only
    rw [sSeq_ap, yG2, Option.bind_some]
    dsimp only
    rw [sSeq_ap, sFor_ap, hit, Option.bind_some]
    dsimp only
    rw [hl, Option.bind_some]
    dsimp only
    simp [f1, ib]
  rw [sSeq_ap, yD, Option.bind_some]
  dsimp only
  rw [sSeq_ap, yE, Option.bind_some]
  dsimp only
  rw [sSeq_ap, yF, Option.bind_some]
  exact yG
theorem law_right {d : D} (h : Pot d) : ∃ d', g__law_right d [] = some (.bl true, d') := by
  obtain ⟨d1, c, P, F, B, H, h1, fr, hK⟩ := lr_ABC h
  have key : ∃ d' ρ, sSeq lrD (sSeq lrE (sSeq lrF lrG)) [.o d1, .i (.int c), .i (.dic (encM eT D.int P)), .u, .u, .u, .u, .i (eF c F), .i (.lst (H.map D.int)), .u, .u, .u, .u, .u] = some (.rt (.bl true), .o d' :: ρ) := by
    cases hH : H with
    | nil =>
      have := lr_free h1 fr hH
      rw [hH] at this
      exact this
    | cons x rest =>
      obtain ⟨ρ, hρ⟩ := lr_bar h1 fr hH
      rw [hH] at hρ
      exact ⟨d1, ρ, hρ⟩
  obtain ⟨d', ρ, hk⟩ := key
  refine ⟨d', ?_⟩
  unfold g__law_right
  refine runO_rt rfl (ρ := ρ) ?_
  rw [lr_eq]
  exact (hK _).trans hk
theorem plain_law : ∀ p0 p1 : Int, 0 ≤ p0 → 0 ≤ p1 → p1 < 2147483478 → ∃ d, g__law_right (.lst [.int p0, .int p1]) [] = some (.bl true, d) := fun p0 p1 h0 h1 h2 => law_right ⟨p0, p1, rfl, h0, h1, by omega⟩
end Pm
end
open PySem PySem.W PyProof.Rows
set_option maxRecDepth 100000 in
theorem PySem.Challenge.cw_aheadsums_k62_whole_forms_free_at_their_holds : PySem.Challenge.rw_aheadsums_k62_whole_forms_free_at_their.Holds := by
  exact Pd.holds_of Pm.plain_law
#print axioms PySem.Challenge.cw_aheadsums_k62_whole_forms_free_at_their_holds
