import PyProof.Rows.All
import Wide.All
import OpenK.AllK
import Wide.FinOn
import HandS.ForExc
import HandS.Comp
import HandS.Iter
import HandS.Wide
import HandS.WideBits
import KE.KDictKeyed
import KE.KeyNested
import KE.GoesEnum
import KE.GoesNew
import KE.GoesMore
import HandS.IsInst
import HandS.TupAny
import HandS.Text
import HandS.ExcOwn
import HandS.ExcIs
import HandS.TryOnly
import HandS.TupLe
import HandS.RaiseMore
import HandS.SortInts
import HandS.Dict
import HandS.DictComp
import HandS.WordsDict
import HandS.Star
import HandS.More
import HandS.Strs
import KE.DataMinMax
import KE.SortData
import HandS.SortKw
import HandS.ExcInit
import HandS.ExcField
import HandS.Property
import KE.DataCmp
import HandS.Sort
import HandS.Deep
import HandS.MakeKwOnly
import KE.KOpsOwn
import HandS.TryMany
import HandS.StrMore
import HandS.FStr
import HandS.Steps
import KE.IntTextLaws
import PyProof.StrLawsAffix
import HandS.SetFor
import PySem.Challenge.RW_signoff_k71_reports_written
-- Core
set_option autoImplicit false
set_option linter.all false
namespace M
open Classical

/-! values: immutable data inline, mutable objects by their place in the store -/
inductive W where
  | non
  | bl (b : Bool)
  | int (i : Int)
  | str (s : List Nat)
  | tup (ws : List W)
  /-- a list that nobody will change: by value -/
  | lst (ws : List W)
  /-- a list of somebody else's that is read only: the script -/
  | ro (ws : List W)
  /-- a dict that nobody will change: its keys, its values -/
  | dct (ks vs : List W)
  /-- an object that nobody will change: its class, its fields -/
  | ob (c : String) (ns : List String) (ws : List W)
  | loc (n : Nat)
  /-- the exception that is handled: its address, its class -/
  | exv (a : Nat) (c : String) (f : Option (Nat × List String)) (ws : List W)
  /-- a range -/
  | rng (i j : Int)
  /-- a dict that nobody will change, whose keys are tuples -/
  | dctP (ks vs : List W)

inductive Cell where
  | lst (ws : List W)
  | dict (kvs : List (W × W))
  /-- a dict whose keys are tuples -/
  | dictP (kvs : List (W × W))
  | obj (c : String) (fs : List (String × W))
  /-- what stands here is by value from now on -/
  | gone

abbrev Store := List Cell
abbrev Env := List (Option W)

/-- an exception: its class, what its own dict holds (none: it has none) -/
structure Ex where
  c : String
  d : Option (List (String × W))

inductive R (α : Type) where
  | ok (a : α) (st : Store)
  | exc (x : Ex) (st : Store)
  | stuck

def R.bind {α β : Type} (r : R α) (f : α → Store → R β) : R β := match r with
  | .ok a st => f a st
  | .exc x st => .exc x st
  | .stuck => .stuck
@[simp] theorem bind_ok {α β : Type} (a : α) (st : Store) (f : α → Store → R β) : (R.ok a st).bind f = f a st := rfl
@[simp] theorem bind_exc {α β : Type} (x : Ex) (st : Store) (f : α → Store → R β) : (R.exc x st : R α).bind f = .exc x st := rfl
@[simp] theorem bind_stuck {α β : Type} (f : α → Store → R β) : (R.stuck : R α).bind f = .stuck := rfl

inductive RS where
  | nx (env : Env) (st : Store)
  | ret (w : W) (st : Store)
  | brk (env : Env) (st : Store)
  | cnt (env : Env) (st : Store)
  | exc (x : Ex) (env : Env) (st : Store)
  | stuck

abbrev IE := Env → Store → R W
abbrev IL := Env → Store → R (List W)
abbrev IT := Env → Store → R Bool
abbrev IS := Env → Store → RS
abbrev Fn := List W → Store → R W

/-- the largest size that the model lets a sequence have -/
def lim : Nat := 16777216

mutual
/-- every place that is named lies below n -/
def W.bd (n : Nat) : W → Bool
  | .tup ws => bdL n ws
  | .lst ws => bdL n ws
  | .ro ws => bdL n ws
  | .dct ks vs => bdL n ks && bdL n vs
  | .ob _ _ ws => bdL n ws
  | .exv _ _ _ ws => bdL n ws
  | .dctP ks vs => bdL n ks && bdL n vs
  | .loc m => decide (m < n)
  | _ => true
def bdL (n : Nat) : List W → Bool
  | [] => true
  | w :: ws => w.bd n && bdL n ws
end
def Cell.bd (n : Nat) : Cell → Bool
  | .lst ws => bdL n ws
  | .dict kvs => bdL n (kvs.map (·.1)) && bdL n (kvs.map (·.2))
  | .dictP kvs => bdL n (kvs.map (·.1)) && bdL n (kvs.map (·.2))
  | .obj _ fs => bdL n (fs.map (·.2))
  | .gone => true
def Ex.bd (n : Nat) (x : Ex) : Bool := match x.d with
  | none => true
  | some fs => bdL n (fs.map (·.2))

def Cell.isGone : Cell → Bool
  | .gone => true
  | _ => false
/-- what stood stands, or has been changed to something that names nothing new -/
def OldOk (st st1 : Store) : Prop := st.length ≤ st1.length ∧ ∀ i, i < st.length → st1[i]? = st[i]? ∨ ∃ c d, st1[i]? = some c ∧ c.bd st.length = true ∧ c.isGone = false ∧ st[i]? = some d ∧ d.isGone = false

inductive Mode where
  | raw | pur | lst

/-- a new list, dict or object that is handed back is by value from then on -/
@[simp] def frz (n : Nat) (st1 : Store) (w : W) : W := match w with
  | .loc k => if k < n then w else match st1[k]? with
    | some (.lst ws) => .lst ws
    | some (.dict kvs) => .dct (kvs.map (·.1)) (kvs.map (·.2))
    | some (.dictP kvs) => .dctP (kvs.map (·.1)) (kvs.map (·.2))
    | some (.obj c fs) => .ob c (fs.map (·.1)) (fs.map (·.2))
    | _ => w
  | _ => w
noncomputable def fin (m : Mode) (st : Store) (w : W) (st1 : Store) : R W := match m with
  | .raw => .ok w st1
  | .pur => if (frz st.length st1 w).bd st.length = true ∧ OldOk st st1 then .ok (frz st.length st1 w) (st1.take st.length) else .stuck
  | .lst => match w with
    | .loc k => match st1[k]? with
      | some (.lst ws) => if st.length ≤ k ∧ bdL st.length ws = true ∧ OldOk st st1 then .ok (.loc st.length) (st1.take st.length ++ [.lst ws]) else .stuck
      | _ => .stuck
    | _ => .stuck
noncomputable def finX (m : Mode) (st : Store) (x : Ex) (st1 : Store) : R W := match m with
  | .raw => .exc x st1
  | _ => if x.bd st.length = true ∧ OldOk st st1 then .exc x (st1.take st.length) else .stuck
/-- a def's call: n slots -/
noncomputable def runDef (n : Nat) (m : Mode) (body : IS) : Fn := fun args st => match body (args.map some ++ List.replicate (n - args.length) none) st with
  | .nx _ st1 => fin m st .non st1
  | .ret w st1 => fin m st w st1
  | .exc x _ st1 => finX m st x st1
  | _ => .stuck

/-! expressions -/
@[simp] def eVar (i : Nat) : IE := fun env st => match env[i]? with
  | some (some w) => .ok w st
  | _ => .stuck
@[simp] def eC (w : W) : IE := fun _ st => .ok w st
@[simp] def eOp (f : W → W → Store → R W) (a b : IE) : IE := fun env st => (a env st).bind fun x s1 => (b env s1).bind fun y s2 => f x y s2
@[simp] def eUn (f : W → Store → R W) (a : IE) : IE := fun env st => (a env st).bind fun x s1 => f x s1
@[simp] def eArgs : List IE → IL
  | [] => fun _ st => .ok [] st
  | e :: es => fun env st => (e env st).bind fun x s1 => (eArgs es env s1).bind fun xs s2 => .ok (x :: xs) s2
@[simp] def eCall (f : Fn) (as : List IE) : IE := fun env st => (eArgs as env st).bind f
@[simp] def eTup (as : List IE) : IE := fun env st => (eArgs as env st).bind fun xs s => .ok (.tup xs) s
@[simp] def eLst (l : IL) : IE := fun env st => (l env st).bind fun xs s => .ok (.lst xs) s
/-- a new list with these items, that may be changed -/
@[simp] def eNew (l : IL) : IE := fun env st => (l env st).bind fun xs s => .ok (.loc s.length) (s ++ [.lst xs])
@[simp] def eIf (t : IT) (a b : IE) : IE := fun env st => (t env st).bind fun c s => if c = true then a env s else b env s
@[simp] def eAndV (a b : IE) : IE := fun env st => (a env st).bind fun x s => match x with
  | .bl true => b env s
  | .bl false => .ok (.bl false) s
  | _ => .stuck
@[simp] def eOrV (a b : IE) : IE := fun env st => (a env st).bind fun x s => match x with
  | .bl true => .ok (.bl true) s
  | .bl false => b env s
  | _ => .stuck
@[simp] def eNotV (a : IE) : IE := fun env st => (a env st).bind fun x s => match x with
  | .bl c => .ok (.bl (!c)) s
  | _ => .stuck

/-! tests -/
@[simp] def tVal (a : IE) : IT := fun env st => (a env st).bind fun x s => match x with
  | .bl c => .ok c s
  | _ => .stuck
@[simp] def tAnd (a b : IT) : IT := fun env st => (a env st).bind fun c s => if c = true then b env s else .ok false s
@[simp] def tOr (a b : IT) : IT := fun env st => (a env st).bind fun c s => if c = true then .ok true s else b env s
@[simp] def tNot (a : IT) : IT := fun env st => (a env st).bind fun c s => .ok (!c) s
/-- a value's truth -/
@[simp] def truth (x : W) (st : Store) : R Bool := match x with
  | .non => .ok false st
  | .bl b => .ok b st
  | .int i => .ok (i != 0) st
  | .str s => if s.length ≤ lim then .ok (!s.isEmpty) st else .stuck
  | .tup ws => .ok (!ws.isEmpty) st
  | .lst ws => .ok (!ws.isEmpty) st
  | .ro ws => .ok (!ws.isEmpty) st
  | .loc n => match st[n]? with
    | some (.lst ws) => .ok (!ws.isEmpty) st
    | _ => .stuck
  | .dct _ _ => .stuck
  | .ob _ _ _ => .stuck
  | .exv _ _ _ _ => .stuck
  | .rng _ _ => .stuck
  | .dctP _ _ => .stuck
@[simp] def tTru (a : IE) : IT := fun env st => (a env st).bind fun x s => truth x s

/-! statements -/
@[simp] def sSkip : IS := fun env st => .nx env st
@[simp] def sSeq (a b : IS) : IS := fun env st => match a env st with
  | .nx e s => b e s
  | r => r
def sBlk : List IS → IS
  | [] => sSkip
  | [s] => s
  | s :: r => sSeq s (sBlk r)
@[simp] def sSet (i : Nat) (a : IE) : IS := fun env st => match a env st with
  | .ok w s => .nx (env.set i (some w)) s
  | .exc x s => .exc x env s
  | .stuck => .stuck
@[simp] def sDrop (a : IE) : IS := fun env st => match a env st with
  | .ok _ s => .nx env s
  | .exc x s => .exc x env s
  | .stuck => .stuck
@[simp] def sRet (a : IE) : IS := fun env st => match a env st with
  | .ok w s => .ret w s
  | .exc x s => .exc x env s
  | .stuck => .stuck
@[simp] def sIf (t : IT) (a b : IS) : IS := fun env st => match t env st with
  | .ok c s => if c = true then a env s else b env s
  | .exc x s => .exc x env s
  | .stuck => .stuck
@[simp] def sBrk : IS := fun env st => .brk env st
@[simp] def sCnt : IS := fun env st => .cnt env st
@[simp] def sNever : IS := fun _ _ => .stuck

/-! targets: the slots that are stored, and how -/
structure Tg where
  slots : List Nat
  run : W → Env → Option Env
@[simp] def tgName (i : Nat) : Tg := ⟨[i], fun w env => some (env.set i (some w))⟩
@[simp] def tgAll : List Tg → List W → Env → Option Env
  | [], [], env => some env
  | t :: ts, w :: ws, env => (t.run w env).bind fun e => tgAll ts ws e
  | _, _, _ => none
@[simp] def tgTup (ts : List Tg) : Tg := ⟨ts.flatMap (·.slots), fun w env => match w with
  | .tup ws => tgAll ts ws env
  | _ => none⟩
@[simp] def sAsg (g : Tg) (a : IE) : IS := fun env st => match a env st with
  | .ok w s => match g.run w env with
    | some e => .nx e s
    | none => .stuck
  | .exc x s => .exc x env s
  | .stuck => .stuck

/-! what is walked: the items, and what must be so of the store at each turn -/
structure It where
  items : List W
  guard : Store → Prop
abbrev II := Env → Store → R It
noncomputable def forGo (G : Store → Prop) (g : Tg) (body : IS) : List W → Env → Store → RS
  | [], env, st => if G st then .nx env st else .stuck
  | w :: ws, env, st => if G st then (match g.run w env with
    | none => .stuck
    | some e => match body e st with
      | .nx e1 s1 => forGo G g body ws e1 s1
      | .cnt e1 s1 => forGo G g body ws e1 s1
      | .brk e1 s1 => .nx e1 s1
      | r => r) else .stuck
@[simp] noncomputable def sFor (it : II) (g : Tg) (body : IS) : IS := fun env st => match it env st with
  | .ok I s => forGo I.guard g body I.items env s
  | .exc x s => .exc x env s
  | .stuck => .stuck

def whileN (t : IT) (body : IS) : Nat → Env → Store → RS
  | 0, _, _ => .stuck
  | n + 1, env, st => match t env st with
    | .ok true s => match body env s with
      | .nx e1 s1 => whileN t body n e1 s1
      | .cnt e1 s1 => whileN t body n e1 s1
      | .brk e1 s1 => .nx e1 s1
      | r => r
    | .ok false s => .nx env s
    | .exc x s => .exc x env s
    | .stuck => .stuck
noncomputable def sWhile (t : IT) (body : IS) : IS := fun env st => if h : ∃ n, whileN t body n env st ≠ .stuck then whileN t body h.choose env st else .stuck

/-- the list of a comprehension: own: the slots of its own names -/
@[simp] def wipeE (env : Env) : List Nat → Env
  | [] => env
  | i :: is => wipeE (env.set i none) is
noncomputable def lcGo (G : Store → Prop) (g : Tg) (t : IT) (elt : IE) (env : Env) : List W → Store → List W → R (List W)
  | [], st, acc => if G st then .ok acc st else .stuck
  | w :: ws, st, acc => if G st then (match g.run w env with
    | none => .stuck
    | some e => match t e st with
      | .ok true s1 => match elt e s1 with
        | .ok y s2 => if acc.length < lim then lcGo G g t elt env ws s2 (acc ++ [y]) else .stuck
        | _ => .stuck
      | .ok false s1 => lcGo G g t elt env ws s1 acc
      | _ => .stuck) else .stuck
@[simp] noncomputable def lLC (it : II) (g : Tg) (t : IT) (elt : IE) (own : List Nat) : IL := fun env st => (it env st).bind fun I s => lcGo I.guard g t elt (wipeE env own) I.items s []
@[simp] def tYes : IT := fun _ st => .ok true st

/-! iterables -/
@[simp] def itSeq (x : W) (st : Store) : R It := match x with
  | .tup ws => .ok ⟨ws, fun _ => True⟩ st
  | .lst ws => .ok ⟨ws, fun _ => True⟩ st
  | .ro ws => .ok ⟨ws, fun _ => True⟩ st
  | .loc n => match st[n]? with
    | some (.lst ws) => .ok ⟨ws, fun s => s[n]? = some (.lst ws)⟩ st
    | _ => .stuck
  | _ => .stuck
@[simp] def iSeq (a : IE) : II := fun env st => (a env st).bind itSeq
def upTo (lo : Int) (n : Nat) : List W := (List.range n).map fun (k : Nat) => W.int (lo + (k : Int))
/-- ints that a range may have as its ends -/
def inR (j : Int) : Prop := -(2 ^ 62) ≤ j ∧ j < 2 ^ 62
@[simp] noncomputable def itRange (xs : List W) (st : Store) : R It := match xs with
  | [.int j] => if inR j then .ok ⟨upTo 0 j.toNat, fun _ => True⟩ st else .stuck
  | [.int i, .int j] => if inR i ∧ inR j then .ok ⟨upTo i (j - i).toNat, fun _ => True⟩ st else .stuck
  | _ => .stuck
@[simp] noncomputable def iRange (as : List IE) : II := fun env st => (eArgs as env st).bind itRange
def enumFrom (k : Nat) : List W → List W
  | [] => []
  | w :: ws => .tup [.int (k : Int), w] :: enumFrom (k + 1) ws
@[simp] def iEnum (a : IE) : II := fun env st => (a env st).bind fun x s => (itSeq x s).bind fun I s1 => .ok ⟨enumFrom 0 I.items, I.guard⟩ s1
def zipW : List W → List W → List W
  | a :: as, b :: bs => .tup [a, b] :: zipW as bs
  | _, _ => []
@[simp] def iZip (a b : IE) : II := fun env st => (a env st).bind fun x s => (b env s).bind fun y s1 => (itSeq x s1).bind fun I s2 => (itSeq y s2).bind fun J s3 => .ok ⟨zipW I.items J.items, fun s => I.guard s ∧ J.guard s⟩ s3
end M

-- Ops
set_option autoImplicit false
set_option linter.all false
namespace M
open Classical

/-! equality of data; what may be compared: nothing that may change, of some depth -/
mutual
def W.eqv : W → W → Bool
  | .non, .non => true
  | .bl a, .bl b => a == b
  | .bl a, .int j => (if a then 1 else 0) == j
  | .int i, .bl b => i == (if b then 1 else 0)
  | .int i, .int j => i == j
  | .str a, .str b => a == b
  | .tup as, .tup bs => eqvL as bs
  | .lst as, .lst bs => eqvL as bs
  | .lst as, .ro bs => eqvL as bs
  | .ro as, .lst bs => eqvL as bs
  | .ro as, .ro bs => eqvL as bs
  | _, _ => false
def eqvL : List W → List W → Bool
  | [], [] => true
  | a :: as, b :: bs => a.eqv b && eqvL as bs
  | _, _ => false
end
mutual
def W.okD : W → Nat → Bool
  | .str s, _ => s.all (· < 1114112)
  | .tup ws, n + 1 => okDL ws n
  | .lst ws, n + 1 => okDL ws n
  | .ro ws, n + 1 => okDL ws n
  | .tup _, 0 => false
  | .lst _, 0 => false
  | .ro _, 0 => false
  | .loc _, _ => false
  | .exv _ _ _ _, _ => false
  | .rng _ _, _ => false
  | .dctP _ _, _ => false
  | .dct _ _, _ => false
  | .ob _ _ _, _ => false
  | _, _ => true
def okDL : List W → Nat → Bool
  | [], _ => true
  | w :: ws, n => w.okD n && okDL ws n
end
/-- a store's list as it stands -/
def look (st : Store) (w : W) : W := match w with
  | .loc n => match st[n]? with
    | some (.lst ws) => .lst ws
    | _ => w
  | _ => w
@[simp] def opEq (x y : W) (st : Store) : R W := if (look st x).okD 64 = true ∧ (look st y).okD 64 = true then .ok (.bl ((look st x).eqv (look st y))) st else .stuck
@[simp] def opNe (x y : W) (st : Store) : R W := if (look st x).okD 64 = true ∧ (look st y).okD 64 = true then .ok (.bl (!(look st x).eqv (look st y))) st else .stuck

/-! ints -/
@[simp] def opI (g : Int → Int → W) (x y : W) (st : Store) : R W := match x, y with
  | .int i, .int j => .ok (g i j) st
  | _, _ => .stuck
@[simp] noncomputable def opIc (c : Int → Int → Prop) (g : Int → Int → W) (x y : W) (st : Store) : R W := match x, y with
  | .int i, .int j => if c i j then .ok (g i j) st else .stuck
  | _, _ => .stuck
@[simp] def opSub := opI fun i j => .int (i - j)
def cMul (i j : Int) : Prop := (-(2 ^ 64) < i ∧ i < 2 ^ 64) ∨ (-(2 ^ 64) < j ∧ j < 2 ^ 64) ∨ i.natAbs.log2 + j.natAbs.log2 < 1000000
@[simp] noncomputable def opMul := opIc cMul fun i j => .int (i * j)
@[simp] noncomputable def opDiv := opIc (fun _ j => 0 < j ∧ j.natAbs.log2 < 9000) fun i j => .int (i / j)
@[simp] noncomputable def opMod := opIc (fun _ j => 0 < j) fun i j => .int (i % j)
def cPow (i j : Int) : Prop := 0 ≤ j ∧ j ≤ 1000000 ∧ i.natAbs < 2 ^ 64
@[simp] noncomputable def opPow := opIc cPow fun i j => .int (i ^ j.toNat)
@[simp] noncomputable def opShl := opIc cPow fun i j => .int (i * 2 ^ j.toNat)
@[simp] noncomputable def opShr := opIc (fun _ j => 0 ≤ j) fun i j => .int (i / 2 ^ j.toNat)
@[simp] def opLt := opI fun i j => .bl (decide (i < j))
@[simp] def opLe := opI fun i j => .bl (decide (i ≤ j))
@[simp] def opGt := opI fun i j => .bl (decide (j < i))
@[simp] def opGe := opI fun i j => .bl (decide (j ≤ i))
/-- bits of ints that are not negative -/
@[simp] noncomputable def opAnd := opIc (fun i j => 0 ≤ i ∧ 0 ≤ j) fun i j => .int ((i.toNat &&& j.toNat : Nat) : Int)
@[simp] noncomputable def opOr := opIc (fun i j => 0 ≤ i ∧ 0 ≤ j) fun i j => .int ((i.toNat ||| j.toNat : Nat) : Int)
@[simp] noncomputable def opXor := opIc (fun i j => 0 ≤ i ∧ 0 ≤ j) fun i j => .int ((i.toNat ^^^ j.toNat : Nat) : Int)
def lstOf (st : Store) (w : W) : Option (List W) := match w with
  | .lst ws => some ws
  | .loc n => match st[n]? with
    | some (.lst ws) => some ws
    | _ => none
  | _ => none
@[simp] def opAdd (x y : W) (st : Store) : R W := match x, y with
  | .int i, .int j => .ok (.int (i + j)) st
  | .str a, .str b => if a.length + b.length ≤ lim then .ok (.str (a ++ b)) st else .stuck
  | .tup a, .tup b => if a.length + b.length ≤ lim then .ok (.tup (a ++ b)) st else .stuck
  | x, y => match lstOf st x, lstOf st y with
    | some a, some b => if a.length + b.length ≤ lim then .ok (.lst (a ++ b)) st else .stuck
    | _, _ => .stuck
/-- .. of lists, a new one -/
@[simp] def lCat (a b : IE) : IL := fun env st => (a env st).bind fun x s1 => (b env s1).bind fun y s2 => match lstOf s2 x, lstOf s2 y with
  | some xs, some ys => if xs.length + ys.length ≤ lim then .ok (xs ++ ys) s2 else .stuck
  | _, _ => .stuck

/-! in, is -/
def W.flat : W → Bool
  | .non => true
  | .bl _ => true
  | .int _ => true
  | .str _ => true
  | _ => false
/-- a list's or tuple's items -/
def seqOf (st : Store) (w : W) : Option (List W) := match w with
  | .tup ws => some ws
  | .lst ws => some ws
  | .ro ws => some ws
  | .loc n => match st[n]? with
    | some (.lst ws) => some ws
    | _ => none
  | _ => none
def allFlat (ws : List W) : Bool := ws.all W.flat
def hasW (ws : List W) (x : W) : Bool := ws.any fun y => y.eqv x
@[simp] def opIn (neg : Bool) (x y : W) (st : Store) : R W := match seqOf st y with
  | some ws => if x.flat = true ∧ allFlat ws = true then .ok (.bl (if neg then !hasW ws x else hasW ws x)) st else .stuck
  | none => .stuck
@[simp] def W.isNon : W → Bool
  | .non => true
  | _ => false
@[simp] def opIsN (x y : W) (st : Store) : R W := match y with
  | .non => .ok (.bl x.isNon) st
  | _ => .stuck
@[simp] def opNotN (x y : W) (st : Store) : R W := match y with
  | .non => .ok (.bl (!x.isNon)) st
  | _ => .stuck
@[simp] def unNeg (x : W) (st : Store) : R W := match x with
  | .int i => .ok (.int (-i)) st
  | _ => .stuck

/-! places -/
@[simp] def ixW (n : Nat) (i : Int) : Option Nat := if 0 ≤ i then (if i < n then some i.toNat else none) else if -(n : Int) ≤ i then some (i + n).toNat else none
def atW (ws : List W) (i : Int) : Option W := (ixW ws.length i).bind fun j => ws[j]?
@[simp] def opIx (x y : W) (st : Store) : R W := match seqOf st x, y with
  | some ws, .int i => match atW ws i with
    | some w => .ok w st
    | none => .stuck
  | _, _ => .stuck
/-- x[i] = v, a list of the store -/
@[simp] def setIx (x y v : W) (st : Store) : Option Store := match x, y with
  | .loc n, .int i => match st[n]? with
    | some (.lst ws) => match ixW ws.length i with
      | some j => some (st.set n (.lst (ws.set j v)))
      | none => none
    | _ => none
  | _, _ => none
@[simp] def sSetIx (o i a : IE) : IS := fun env st => match a env st with
  | .ok v s => (match o env s with
    | .ok x s1 => (match i env s1 with
      | .ok y s2 => (match setIx x y v s2 with
        | some s3 => .nx env s3
        | none => .stuck)
      | .exc x s => .exc x env s
      | .stuck => .stuck)
    | .exc x s => .exc x env s
    | .stuck => .stuck)
  | .exc x s => .exc x env s
  | .stuck => .stuck
def sIxN (n : Nat) (d : Nat) : Option Int → Nat
  | none => d
  | some i => if i < 0 then (i + n).toNat else min i.toNat n
def cutW (ws : List W) (lo hi : Option Int) : List W := (ws.drop (sIxN ws.length 0 lo)).take (sIxN ws.length ws.length hi - sIxN ws.length 0 lo)
@[simp] def part (a : Option IE) : Env → Store → R (Option Int) := match a with
  | none => fun _ st => .ok none st
  | some e => fun env st => (e env st).bind fun x s => match x with
    | .int i => .ok (some i) s
    | _ => .stuck
@[simp] def lSl (e : IE) (lo hi : Option IE) : IL := fun env st => (e env st).bind fun x s1 => (part lo env s1).bind fun l s2 => (part hi env s2).bind fun h s3 => match x with
  | .lst ws => .ok (cutW ws l h) s3
  | .ro ws => .ok (cutW ws l h) s3
  | .loc n => match s3[n]? with
    | some (.lst ws) => .ok (cutW ws l h) s3
    | _ => .stuck
  | _ => .stuck
@[simp] def eSlT (e : IE) (lo hi : Option IE) : IE := fun env st => (e env st).bind fun x s1 => (part lo env s1).bind fun l s2 => (part hi env s2).bind fun h s3 => match x with
  | .tup ws => .ok (.tup (cutW ws l h)) s3
  | _ => .stuck

/-! built-in functions -/
@[simp] def bLen (xs : List W) (st : Store) : R W := match xs with
  | [.str s] => if s.length ≤ lim then .ok (.int s.length) st else .stuck
  | [x] => match seqOf st x with
    | some ws => .ok (.int ws.length) st
    | none => .stuck
  | _ => .stuck
@[simp] def bInt (xs : List W) (st : Store) : R W := match xs with
  | [.int i] => .ok (.int i) st
  | [.bl b] => .ok (.int (if b then 1 else 0)) st
  | _ => .stuck
@[simp] def eB (f : List W → Store → R W) (as : List IE) : IE := fun env st => (eArgs as env st).bind f
@[simp] def lList (a : IE) : IL := fun env st => (a env st).bind fun x s => match seqOf s x with
  | some ws => .ok ws s
  | none => .stuck
@[simp] def bTup (xs : List W) (st : Store) : R W := match xs with
  | [x] => match seqOf st x with
    | some ws => .ok (.tup ws) st
    | none => .stuck
  | _ => .stuck
/-- isinstance(x, T) -/
def tyOf (st : Store) (w : W) : Option String := match w with
  | .non => some "NoneType"
  | .bl _ => some "bool"
  | .int _ => some "int"
  | .str _ => some "str"
  | .tup _ => some "tuple"
  | .lst _ => some "list"
  | .ro _ => none
  | .exv _ _ _ _ => none
  | .rng _ _ => none
  | .dctP _ _ => none
  | .dct _ _ => none
  | .ob _ _ _ => none
  | .loc n => match st[n]? with
    | some (.lst _) => some "list"
    | _ => none
@[simp] def isT (a T : String) : Bool := a == T || (a == "bool" && T == "int")
@[simp] def eIsi (T : String) (a : IE) : IE := fun env st => (a env st).bind fun x s => match tyOf s x with
  | some t => .ok (.bl (isT t T)) s
  | none => .stuck
def bitsN (i : Int) : Nat := if i = 0 then 0 else i.natAbs.log2 + 1
@[simp] def eBits (a : IE) : IE := fun env st => (a env st).bind fun x s => match x with
  | .int i => .ok (.int (bitsN i)) s
  | _ => .stuck
/-- o.m(..), a built-in's method by values -/
def tyM (st : Store) (T : String) (x : W) : Bool := match x with
  | .str _ => T == "str"
  | .int _ => T == "int"
  | .lst _ => T == "list"
  | .ro _ => T == "list"
  | .loc n => match st[n]? with
    | some (.lst _) => T == "list"
    | _ => false
  | _ => false
@[simp] def eBm (T : String) (f : W → List W → Store → R W) (o : IE) (as : List IE) : IE := fun env st => (o env st).bind fun x s1 => if tyM s1 T x = true then (eArgs as env s1).bind fun xs s2 => f x xs s2 else .stuck
@[simp] def mApp (x : W) (xs : List W) (st : Store) : R W := match x, xs with
  | .loc n, [y] => match st[n]? with
    | some (.lst ws) => if ws.length < lim then .ok .non (st.set n (.lst (ws ++ [y]))) else .stuck
    | _ => .stuck
  | _, _ => .stuck

/-! exceptions -/
@[simp] def sRaise (c : String) (a : IE) : IS := fun env st => match a env st with
  | .ok _ s => .exc ⟨c, none⟩ env s
  | .exc x s => .exc x env s
  | .stuck => .stuck
/-- try .. except C: subs: the classes below C -/
@[simp] def sTry (subs : List String) (β ς : IS) : IS := fun env st => match β env st with
  | .exc x e1 s1 => if subs.contains x.c = true then (match ς e1 s1 with
    | .exc _ _ _ => .stuck
    | r => r) else .exc x e1 s1
  | r => r
@[simp] def RS.wipe (i : Nat) : RS → RS
  | .nx e s => .nx (e.set i none) s
  | .brk e s => .brk (e.set i none) s
  | .cnt e s => .cnt (e.set i none) s
  | .ret w s => .ret w s
  | .exc _ _ _ => .stuck
  | .stuck => .stuck
/-- the exception as a value: at a, its own dict at d -/
def exvW (a : Nat) (d : Option Nat) (x : Ex) : W := match d, x.d with
  | some dd, some fs => .exv a x.c (some (dd, fs.map (·.1))) (fs.map (·.2))
  | _, _ => .exv a x.c none []
def exd0 (x : Ex) : Option Nat := x.d.map fun _ => 0
/-- .. as a name in slot i -/
@[simp] noncomputable def sTryAs (i : Nat) (subs : List String) (β : IS) (ς : Nat → Option Nat → String → IS) : IS := fun env st => match β env st with
  | .exc x e1 s1 => if subs.contains x.c = true then (if ∀ a (d : Option Nat), d.isSome = x.d.isSome → (ς a d x.c (e1.set i (some (exvW a d x))) s1).wipe i = (ς 0 (exd0 x) x.c (e1.set i (some (exvW 0 (exd0 x) x))) s1).wipe i then (ς 0 (exd0 x) x.c (e1.set i (some (exvW 0 (exd0 x) x))) s1).wipe i else .stuck) else .exc x e1 s1
  | r => r
/-- isinstance(e, C), e the exception of the suite, of class c -/
@[simp] def eIsE (a : Nat) (d : Option Nat) (c : String) (subs : List String) (e : IE) : IE := fun env st => (e env st).bind fun x s => match x with
  | .exv a' c' f _ => if a' = a ∧ c' = c ∧ f.map (·.1) = d then .ok (.bl (subs.contains c)) s else .stuck
  | _ => .stuck
/-- e.f, a field of the exception -/
@[simp] def eExF (a : Nat) (d : Option Nat) (c : String) (f : String) (e : IE) : IE := fun env st => (e env st).bind fun x s => match x with
  | .exv a' c' (some (d', ns)) ws => if a' = a ∧ c' = c ∧ some d' = d then (match (ns.zip ws).lookup f with
    | some w => .ok w s
    | none => .stuck) else .stuck
  | _ => .stuck
/-- raise C(e), C's own __init__ storing it as f -/
@[simp] def sRaiseF (c f : String) (a : IE) : IS := fun env st => match a env st with
  | .ok w s => .exc ⟨c, some [(f, w)]⟩ env s
  | .exc x s => .exc x env s
  | .stuck => .stuck

/-! texts of ints, pops, identity of bools -/
def decW (i : Int) : List Nat := (toString i).toList.map Char.toNat
@[simp] noncomputable def bStr (xs : List W) (st : Store) : R W := match xs with
  | [.int i] => if i.natAbs.log2 < 1920 then .ok (.str (decW i)) st else .stuck
  | [.str s] => .ok (.str s) st
  | _ => .stuck
/-- xs.pop(i), xs.pop() -/
@[simp] noncomputable def mPop (x : W) (xs : List W) (st : Store) : R W := match x, xs with
  | .loc n, [.int i] => match st[n]? with
    | some (.lst ws) => if inR i then (match ixW ws.length i with
      | some j => (match ws[j]? with
        | some w => .ok w (st.set n (.lst (ws.eraseIdx j)))
        | none => .stuck)
      | none => .stuck) else .stuck
    | _ => .stuck
  | _, _ => .stuck
@[simp] noncomputable def mPop0 (x : W) (xs : List W) (st : Store) : R W := match x, xs with
  | .loc n, [] => match st[n]? with
    | some (.lst ws) => match ws[ws.length - 1]? with
        | some w => .ok w (st.set n (.lst ws.dropLast))
        | none => .stuck
    | _ => .stuck
  | _, _ => .stuck
@[simp] def opIsB (x y : W) (st : Store) : R W := match x, y with
  | .bl a, .bl b => .ok (.bl (a == b)) st
  | _, _ => .stuck
@[simp] def opNotB (x y : W) (st : Store) : R W := match x, y with
  | .bl a, .bl b => .ok (.bl (!(a == b))) st
  | _, _ => .stuck

/-! what stops changing -/
@[simp] def frzOp (x : W) (s : Store) : R W := match x with
  | .loc n => match s[n]? with
    | some (.lst ws) => .ok (.lst ws) (s.set n .gone)
    | some (.dict kvs) => .ok (.dct (kvs.map (·.1)) (kvs.map (·.2))) (s.set n .gone)
    | some (.dictP kvs) => .ok (.dctP (kvs.map (·.1)) (kvs.map (·.2))) (s.set n .gone)
    | some (.obj c fs) => .ok (.ob c (fs.map (·.1)) (fs.map (·.2))) (s.set n .gone)
    | _ => .stuck
  | _ => .ok x s
@[simp] def eFrz (a : IE) : IE := fun env st => (a env st).bind frzOp
/-! name op= e, of ints -/
@[simp] def opAugI (g : Int → Int → Int) : W → W → Store → R W := opI fun i j => .int (g i j)
/-! built-in functions of lists of ints -/
def intsOf : List W → Option (List Int)
  | [] => some []
  | .int i :: r => (intsOf r).map (i :: ·)
  | _ :: _ => none
def blsOf : List W → Option (List Bool)
  | [] => some []
  | .bl i :: r => (blsOf r).map (i :: ·)
  | _ :: _ => none
@[simp] def onInts (f : List Int → Option W) (xs : List W) (st : Store) : R W := match xs with
  | [x] => match (lstOf st x).bind intsOf with
    | some ns => match f ns with
      | some w => .ok w st
      | none => .stuck
    | none => .stuck
  | _ => .stuck
def maxI : List Int → Option W
  | [] => none
  | i :: r => some (.int (r.foldl max i))
def minI : List Int → Option W
  | [] => none
  | i :: r => some (.int (r.foldl min i))
@[simp] def bSum := onInts fun ns => some (.int ns.sum)
@[simp] def bMax := onInts maxI
@[simp] def bMin := onInts minI
@[simp] def bMax2 (xs : List W) (st : Store) : R W := match xs with
  | [.int i, .int j] => .ok (.int (max i j)) st
  | _ => .stuck
@[simp] def bMin2 (xs : List W) (st : Store) : R W := match xs with
  | [.int i, .int j] => .ok (.int (min i j)) st
  | _ => .stuck
@[simp] def bAbs (xs : List W) (st : Store) : R W := match xs with
  | [.int i] => .ok (.int i.natAbs) st
  | _ => .stuck
@[simp] def bAll (xs : List W) (st : Store) : R W := match xs with
  | [x] => match (lstOf st x).bind blsOf with
    | some bs => .ok (.bl (bs.all id)) st
    | none => .stuck
  | _ => .stuck
@[simp] def bAny (xs : List W) (st : Store) : R W := match xs with
  | [x] => match (lstOf st x).bind blsOf with
    | some bs => .ok (.bl (bs.any id)) st
    | none => .stuck
  | _ => .stuck
/-- sorted(xs) of ints: a new list -/
def insI (i : Int) : List Int → List Int
  | [] => [i]
  | j :: r => if i ≤ j then i :: j :: r else j :: insI i r
def sortI : List Int → List Int
  | [] => []
  | i :: r => insI i (sortI r)
@[simp] def lSortI (a : IE) : IL := fun env st => (a env st).bind fun x s => match (lstOf s x).bind intsOf with
  | some ns => .ok ((sortI ns).map .int) s
  | none => .stuck
/-- xs.index(y), there -/
def idxW (ws : List W) (x : W) : Option Nat := ws.findIdx? fun y => y.eqv x
@[simp] def mIndex (x : W) (xs : List W) (st : Store) : R W := match lstOf st x, xs with
  | some ws, [y] => if y.flat = true ∧ allFlat ws = true then (match idxW ws y with
    | some j => .ok (.int (j : Int)) st
    | none => .stuck) else .stuck
  | _, _ => .stuck
/-- xs.extend(ys), xs.reverse() -/
@[simp] def mExt (x : W) (xs : List W) (st : Store) : R W := match x, xs with
  | .loc n, [y] => match st[n]?, lstOf st y with
    | some (.lst ws), some us => if ws.length + us.length ≤ lim then .ok .non (st.set n (.lst (ws ++ us))) else .stuck
    | _, _ => .stuck
  | _, _ => .stuck
@[simp] def mRev (x : W) (xs : List W) (st : Store) : R W := match x, xs with
  | .loc n, [] => match st[n]? with
    | some (.lst ws) => .ok .non (st.set n (.lst ws.reverse))
    | _ => .stuck
  | _, _ => .stuck
/-- xs.insert(i, y) -/
@[simp] noncomputable def mIns (x : W) (xs : List W) (st : Store) : R W := match x, xs with
  | .loc n, [.int i, y] => match st[n]? with
    | some (.lst ws) => if ws.length < lim ∧ 0 ≤ i ∧ inR i then .ok .non (st.set n (.lst (ws.take i.toNat ++ [y] ++ ws.drop i.toNat))) else .stuck
    | _ => .stuck
  | _, _ => .stuck
/-! dicts -/
def keyOk : W → Bool
  | .int _ => true
  | .str _ => true
  | _ => false
/-- a dict's entries -/
def dctOf (st : Store) (w : W) : Option (List (W × W)) := match w with
  | .dct ks vs => some (ks.zip vs)
  | .loc n => match st[n]? with
    | some (.dict kvs) => some kvs
    | _ => none
  | _ => none
def keyEq : W → W → Bool
  | .int i, .int j => i == j
  | .str a, .str b => a == b
  | _, _ => false
def getD (kvs : List (W × W)) (k : W) : Option W := (kvs.find? fun p => keyEq p.1 k).map (·.2)
def putD (kvs : List (W × W)) (k v : W) : List (W × W) := if kvs.any (fun p => keyEq p.1 k) = true then kvs.map (fun p => if keyEq p.1 k = true then (p.1, v) else p) else kvs ++ [(k, v)]
@[simp] def opDx (x y : W) (st : Store) : R W := match dctOf st x with
  | some kvs => if keyOk y = true then (match getD kvs y with
    | some w => .ok w st
    | none => .stuck) else .stuck
  | none => .stuck
@[simp] def opDin (neg : Bool) (x y : W) (st : Store) : R W := match dctOf st y with
  | some kvs => if keyOk x = true then .ok (.bl (if neg then !(getD kvs x).isSome else (getD kvs x).isSome)) st else .stuck
  | none => .stuck
@[simp] def eNewD : IE := fun _ st => .ok (.loc st.length) (st ++ [.dict []])
@[simp] def eGet1 (o a : IE) : IE := fun env st => (o env st).bind fun x s => match dctOf s x with
  | some _ => (a env s).bind fun y s1 => match dctOf s1 x with
    | some kvs => if keyOk y = true then .ok ((getD kvs y).getD .non) s1 else .stuck
    | none => .stuck
  | none => .stuck
@[simp] def eGet2 (o a b : IE) : IE := fun env st => (o env st).bind fun x s => match dctOf s x with
  | some _ => (a env s).bind fun y s1 => (b env s1).bind fun z s2 => match dctOf s2 x with
    | some kvs => if keyOk y = true then .ok ((getD kvs y).getD z) s2 else .stuck
    | none => .stuck
  | none => .stuck
@[simp] def setDx (x y v : W) (st : Store) : Option Store := match x with
  | .loc n => match st[n]? with
    | some (.dict kvs) => if keyOk y = true ∧ kvs.length < lim then some (st.set n (.dict (putD kvs y v))) else none
    | _ => none
  | _ => none
@[simp] def sDPut (o i a : IE) : IS := fun env st => match a env st with
  | .ok v s => (match o env s with
    | .ok x s1 => (match i env s1 with
      | .ok y s2 => (match setDx x y v s2 with
        | some s3 => .nx env s3
        | none => .stuck)
      | .exc x s => .exc x env s
      | .stuck => .stuck)
    | .exc x s => .exc x env s
    | .stuck => .stuck)
  | .exc x s => .exc x env s
  | .stuck => .stuck
@[simp] def bLenD (xs : List W) (st : Store) : R W := match xs with
  | [x] => match dctOf st x with
    | some kvs => .ok (.int kvs.length) st
    | none => .stuck
  | _ => .stuck

/-! {key: value for ..} -/
abbrev ID := Env → Store → R (List (W × W))
noncomputable def dcGo (G : Store → Prop) (g : Tg) (t : IT) (k v : IE) (env : Env) : List W → Store → List (W × W) → R (List (W × W))
  | [], st, acc => if G st then .ok acc st else .stuck
  | w :: ws, st, acc => if G st then (match g.run w env with
    | none => .stuck
    | some e => match t e st with
      | .ok true s1 => match k e s1 with
        | .ok y s2 => match v e s2 with
          | .ok z s3 => if keyOk y = true ∧ acc.length < lim then dcGo G g t k v env ws s3 (putD acc y z) else .stuck
          | _ => .stuck
        | _ => .stuck
      | .ok false s1 => dcGo G g t k v env ws s1 acc
      | _ => .stuck) else .stuck
@[simp] noncomputable def dDC (it : II) (g : Tg) (t : IT) (k v : IE) (own : List Nat) : ID := fun env st => (it env st).bind fun I s => dcGo I.guard g t k v (wipeE env own) I.items s []
@[simp] def eDct (l : ID) : IE := fun env st => (l env st).bind fun xs s => .ok (.dct (xs.map (·.1)) (xs.map (·.2))) s
@[simp] def eNewDc (l : ID) : IE := fun env st => (l env st).bind fun xs s => .ok (.loc s.length) (s ++ [.dict xs])
end M

-- Rel
set_option Elab.async false
set_option autoImplicit false
set_option linter.all false
set_option maxRecDepth 100000
namespace M
open PySem L2

/-- what is fixed: the written part, the classes by name -/
structure Gm where
  K : PySem.W.Frag
  P : Program
  w : World
  cl : String → Option Value
  oc : String → Option Value

/-- where the store's objects lie; off: lists in the making, that no value may name -/
structure Pl where
  at_ : List Addr
  off : List Addr
  /-- those of the store's that are by value from now on -/
  fz : List Addr
def Pl.add (ρ : Pl) (p : Addr) : Pl := ⟨ρ.at_ ++ [p], ρ.off, ρ.fz⟩
section
variable {Γ : Gm} {ρ ρ' ρ₁ ρ₂ : Pl} {H H' H₁ H₂ : Hp} {st st' : Store} {w w' : W} {ws ws' : List W} {v v' : V} {vs vs' : List V} {a p : Addr}


/-- an object that nobody changes: not one of the store's that may be changed; one that is not ours -/
def Val (ρ : Pl) (H : Hp) (a : Addr) (o : HO) : Prop := H a = some o ∧ (a ∉ ρ.at_ ∨ a ∈ ρ.fz) ∧ a ∉ ρ.off
abbrev LstAt (ρ : Pl) (H : Hp) (a : Addr) (vs : List V) : Prop := Val ρ H a (.lst vs)
def RoAt (Γ : Gm) (ρ : Pl) (H : Hp) (a : Addr) (vs : List V) : Prop := (Rd H a (.lst vs) ∧ (a ∉ ρ.at_ ∨ a ∈ ρ.fz) ∧ a ∉ ρ.off) ∨ SqL Γ.K (fun _ => none) a vs
/-- a key as a value -/
def keyW : L2.Key → W
  | .inl i => .int i
  | .inr x => .str x.cps.toList
mutual
/-- a key of nested tuples -/
def toKey : W → NestedKey
  | .bl b => .num (if b = true then 1 else 0)
  | .int i => .num i
  | .str s => .text ⟨s.toArray⟩
  | .tup ws => .tup (toKeys ws)
  | _ => .none
def toKeys : List W → List NestedKey
  | [] => []
  | w :: ws => toKey w :: toKeys ws
end
/-- a dict whose keys are tuples: its entries, the keys by where they stand -/
def dPO (P : Program) (w : World) (a : Addr) (xs : List (NestedKey × Addr × Value)) : HO := .ext fun h => (a == sysModules) = false ∧ xs.length ≤ sizeLine ∧ (xs.map (·.1)).Nodup ∧
  ∃ o es ep, h.get? a = some o ∧ o.ExactDict ∧ o.data = .dict es ep ∧ es.toList = xs.map (entryOfKey (nestedKind P w))
mutual
def RepV (Γ : Gm) (ρ : Pl) (H : Hp) : W → V → Prop
  | .non, v => v = .non
  | .bl b, v => v = .bl b
  | .int i, v => v = .int i
  | .str s, v => ∃ x : Str, v = .str x ∧ x.cps.toList = s
  | .tup ws, v => ∃ a vs, v = .ref a ∧ SqT Γ.K H a vs ∧ RepL Γ ρ H ws vs
  | .lst ws, v => ∃ a vs, v = .ref a ∧ LstAt ρ H a vs ∧ RepL Γ ρ H ws vs
  | .ro ws, v => ∃ a vs, v = .ref a ∧ RoAt Γ ρ H a vs ∧ RepL Γ ρ H ws vs
  | .dct ks ws, v => ∃ a, ∃ kvs : List (L2.Key × V), v = .ref a ∧ Val ρ H a (.dK kvs) ∧ ks = kvs.map (fun p => keyW p.1) ∧ RepL Γ ρ H ws (kvs.map (·.2))
  | .ob c ns ws, v => ∃ a C dx, ∃ gs : List (Str × V), v = .ref a ∧ Γ.oc c = some (.ref C) ∧ Val ρ H a (.ins C dx gs) ∧ gs.map (·.1) = ns.map Str.ofString ∧ RepL Γ ρ H ws (gs.map (·.2))
  | .loc n, v => ∃ a, v = .ref a ∧ ρ.at_[n]? = some a
  | .exv a _ f ws, v => v = .ref a ∧ match f with
    | none => ws = []
    | some (d, ns) => ∃ gs : List (Str × V), Val ρ H d (.xd gs) ∧ gs.map (·.1) = ns.map Str.ofString ∧ RepL Γ ρ H ws (gs.map (·.2))
  | .rng i j, v => ∃ a, v = .ref a ∧ Val ρ H a (.rng i j)
  | .dctP ks ws, v => ∃ a xs us, v = .ref a ∧ Val ρ H a (dPO Γ.P Γ.w a xs) ∧ Vals us (xs.map (·.2.2)) ∧ toKeys ks = xs.map (·.1) ∧ RepL Γ ρ H ks (xs.map fun x => .ref x.2.1) ∧ RepL Γ ρ H ws us
def RepL (Γ : Gm) (ρ : Pl) (H : Hp) : List W → List V → Prop
  | [], vs => vs = []
  | w :: ws, vs => ∃ v r, vs = v :: r ∧ RepV Γ ρ H w v ∧ RepL Γ ρ H ws r
end

/-- what came behind: the places stay, tuples stay, what is not the store's stays and stays so -/
structure Ext (Γ : Gm) (ρ : Pl) (H : Hp) (ρ' : Pl) (H' : Hp) : Prop where
  pre : ∀ (n : Nat) (a : Addr), ρ.at_[n]? = some a → ρ'.at_[n]? = some a
  tup : ∀ a vs, SqT Γ.K H a vs → SqT Γ.K H' a vs
  frm : ∀ a o, H a = some o → (a ∉ ρ.at_ ∨ a ∈ ρ.fz) → H' a = some o ∧ (a ∉ ρ'.at_ ∨ a ∈ ρ'.fz)
  off : ρ'.off = ρ.off
theorem Ext.refl : Ext Γ ρ H ρ H := ⟨fun _ _ h => h, fun _ _ h => h, fun _ _ h n => ⟨h, n⟩, rfl⟩
theorem Ext.trans (x : Ext Γ ρ H ρ₁ H₁) (y : Ext Γ ρ₁ H₁ ρ₂ H₂) : Ext Γ ρ H ρ₂ H₂ :=
  ⟨fun n a h => y.pre n a (x.pre n a h), fun a vs h => y.tup a vs (x.tup a vs h), fun a o h n => let ⟨h1, n1⟩ := x.frm a o h n; y.frm a o h1 n1, y.off.trans x.off⟩
/-- the weaker one: the lists in the making may change, and others may begin -/
structure Ext0 (Γ : Gm) (ρ : Pl) (H : Hp) (ρ' : Pl) (H' : Hp) : Prop where
  pre : ∀ (n : Nat) (a : Addr), ρ.at_[n]? = some a → ρ'.at_[n]? = some a
  tup : ∀ a vs, SqT Γ.K H a vs → SqT Γ.K H' a vs
  frm : ∀ a o, H a = some o → (a ∉ ρ.at_ ∨ a ∈ ρ.fz) → a ∉ ρ.off → H' a = some o ∧ (a ∉ ρ'.at_ ∨ a ∈ ρ'.fz) ∧ a ∉ ρ'.off
theorem Ext.zero (x : Ext Γ ρ H ρ' H') : Ext0 Γ ρ H ρ' H' := ⟨x.pre, x.tup, fun a o h n m => let ⟨h1, n1⟩ := x.frm a o h n; ⟨h1, n1, by rw [x.off]; exact m⟩⟩
theorem Ext0.trans (x : Ext0 Γ ρ H ρ₁ H₁) (y : Ext0 Γ ρ₁ H₁ ρ₂ H₂) : Ext0 Γ ρ H ρ₂ H₂ :=
  ⟨fun n a h => y.pre n a (x.pre n a h), fun a vs h => y.tup a vs (x.tup a vs h), fun a o h n m => let ⟨h1, n1, m1⟩ := x.frm a o h n m; y.frm a o h1 n1 m1⟩
theorem Val.ext0 {o : HO} (x : Ext0 Γ ρ H ρ' H') (h : Val ρ H a o) : Val ρ' H' a o := let ⟨h, n, m⟩ := h; let ⟨h1, n1, m1⟩ := x.frm a _ h n m; ⟨h1, n1, m1⟩
theorem RoAt.ext0 (x : Ext0 Γ ρ H ρ' H') (h : RoAt Γ ρ H a vs) : RoAt Γ ρ' H' a vs := by
  rcases h with ⟨h | ⟨o, h⟩, n, m⟩ | h
  · obtain ⟨h1, n1, m1⟩ := x.frm a _ h n m
    exact .inl ⟨.inl h1, n1, m1⟩
  · obtain ⟨h1, n1, m1⟩ := x.frm a _ h n m
    exact .inl ⟨.inr ⟨o, h1⟩, n1, m1⟩
  · exact .inr h
theorem Val.cut {o : HO} (hs : ∀ a, (a ∉ ρ.at_ ∨ a ∈ ρ.fz) → a ∉ ρ.off → (a ∉ ρ'.at_ ∨ a ∈ ρ'.fz) ∧ a ∉ ρ'.off) (h : Val ρ H a o) : Val ρ' H a o := let ⟨h, n, m⟩ := h; ⟨h, hs a n m⟩
theorem RoAt.cut (hs : ∀ a, (a ∉ ρ.at_ ∨ a ∈ ρ.fz) → a ∉ ρ.off → (a ∉ ρ'.at_ ∨ a ∈ ρ'.fz) ∧ a ∉ ρ'.off) (h : RoAt Γ ρ H a vs) : RoAt Γ ρ' H a vs := by
  rcases h with ⟨h, n, m⟩ | h
  · exact .inl ⟨h, hs a n m⟩
  · exact .inr h
theorem LstAt.seq (h : LstAt ρ H a vs) : SqL Γ.K H a vs := .of h.1
theorem RoAt.seq (h : RoAt Γ ρ H a vs) : SqL Γ.K H a vs := by
  rcases h with ⟨h, _⟩ | h | h
  · exact .inl h
  · rcases h with h | ⟨o, h⟩ <;> cases h
  · exact .inr h
mutual
theorem RepV.ext0 (x : Ext0 Γ ρ H ρ' H') : ∀ {w : W} {v : V}, RepV Γ ρ H w v → RepV Γ ρ' H' w v
  | .non, _, h => h
  | .bl _, _, h => h
  | .int _, _, h => h
  | .str _, _, h => h
  | .tup ws, _, h => let ⟨a, vs, e, t, r⟩ := h; ⟨a, vs, e, x.tup a vs t, RepL.ext0 x r⟩
  | .lst ws, _, h => let ⟨a, vs, e, t, r⟩ := h; ⟨a, vs, e, t.ext0 x, RepL.ext0 x r⟩
  | .ro ws, _, h => let ⟨a, vs, e, t, r⟩ := h; ⟨a, vs, e, t.ext0 x, RepL.ext0 x r⟩
  | .dct ks ws, _, h => let ⟨a, kvs, e, t, k, r⟩ := h; ⟨a, kvs, e, t.ext0 x, k, RepL.ext0 x r⟩
  | .ob c ns ws, _, h => let ⟨a, C, dx, gs, e, c1, t, k, r⟩ := h; ⟨a, C, dx, gs, e, c1, t.ext0 x, k, RepL.ext0 x r⟩
  | .loc n, _, h => let ⟨a, e, t⟩ := h; ⟨a, e, x.pre n a t⟩
  | .exv _ _ none _, _, h => h
  | .exv _ _ (some (d, ns)) ws, _, h => let ⟨e, gs, t, k, r⟩ := h; ⟨e, gs, t.ext0 x, k, RepL.ext0 x r⟩
  | .rng _ _, _, h => let ⟨a, e, t⟩ := h; ⟨a, e, t.ext0 x⟩
  | .dctP ks ws, _, h => let ⟨a, xs, us, e, t, u, k, r1, r2⟩ := h; ⟨a, xs, us, e, t.ext0 x, u, k, RepL.ext0 x r1, RepL.ext0 x r2⟩
theorem RepL.ext0 (x : Ext0 Γ ρ H ρ' H') : ∀ {ws : List W} {vs : List V}, RepL Γ ρ H ws vs → RepL Γ ρ' H' ws vs
  | [], _, h => h
  | w :: ws, _, h => let ⟨v, r, e, a, b⟩ := h; ⟨v, r, e, RepV.ext0 x a, RepL.ext0 x b⟩
end
theorem RepV.ext (x : Ext Γ ρ H ρ' H') (h : RepV Γ ρ H w v) : RepV Γ ρ' H' w v := h.ext0 x.zero
theorem RepL.ext (x : Ext Γ ρ H ρ' H') (h : RepL Γ ρ H ws vs) : RepL Γ ρ' H' ws vs := h.ext0 x.zero
theorem RepL.len : ∀ {ws : List W} {vs : List V}, RepL Γ ρ H ws vs → vs.length = ws.length
  | [], _, h => by cases h; rfl
  | w :: ws, _, h => by
    obtain ⟨v, r, rfl, _, b⟩ := h
    simp [RepL.len b]
theorem RepL.get : ∀ {ws : List W} {vs : List V} {i : Nat} {w : W}, RepL Γ ρ H ws vs → ws[i]? = some w → ∃ v, vs[i]? = some v ∧ RepV Γ ρ H w v
  | [], _, _, _, _, e => by simp at e
  | w :: ws, _, 0, _, h, e => by
    obtain ⟨v, r, rfl, a, _⟩ := h
    cases e
    exact ⟨v, rfl, a⟩
  | w :: ws, _, i + 1, _, h, e => by
    obtain ⟨v, r, rfl, _, b⟩ := h
    obtain ⟨u, hu, ru⟩ := RepL.get b (i := i) (by simpa using e)
    exact ⟨u, by simpa using hu, ru⟩
theorem RepL.back : ∀ {ws : List W} {vs : List V} {i : Nat} {v : V}, RepL Γ ρ H ws vs → vs[i]? = some v → ∃ w, ws[i]? = some w ∧ RepV Γ ρ H w v := fun {ws vs i v} h e => by
  have hi : i < ws.length := by
    rw [← h.len]
    exact (List.getElem?_eq_some_iff.mp e).1
  obtain ⟨u, hu, r⟩ := h.get (List.getElem?_eq_getElem hi)
  rw [e] at hu
  cases hu
  exact ⟨_, List.getElem?_eq_getElem hi, r⟩
theorem RepL.nil : RepL Γ ρ H [] [] := rfl
theorem RepL.cons (h : RepV Γ ρ H w v) (t : RepL Γ ρ H ws vs) : RepL Γ ρ H (w :: ws) (v :: vs) := ⟨v, vs, rfl, h, t⟩
theorem RepL.app : ∀ {ws : List W} {vs : List V}, RepL Γ ρ H ws vs → RepL Γ ρ H ws' vs' → RepL Γ ρ H (ws ++ ws') (vs ++ vs')
  | [], _, h, t => by cases h; exact t
  | w :: ws, _, h, t => by
    obtain ⟨v, r, rfl, a, b⟩ := h
    exact ⟨v, r ++ vs', rfl, a, b.app t⟩
theorem RepL.one (h : RepV Γ ρ H w v) : RepL Γ ρ H [w] [v] := .cons h .nil
theorem RepL.set : ∀ {ws : List W} {vs : List V} (i : Nat), RepL Γ ρ H ws vs → RepV Γ ρ H w v → RepL Γ ρ H (ws.set i w) (vs.set i v)
  | [], _, _, h, _ => by cases h; exact rfl
  | w :: ws, _, 0, h, t => by
    obtain ⟨u, r, rfl, a, b⟩ := h
    exact ⟨_, _, rfl, t, b⟩
  | w :: ws, _, i + 1, h, t => by
    obtain ⟨u, r, rfl, a, b⟩ := h
    exact ⟨u, r.set i _, rfl, a, b.set i t⟩
theorem RepL.take : ∀ {ws : List W} {vs : List V} (n : Nat), RepL Γ ρ H ws vs → RepL Γ ρ H (ws.take n) (vs.take n)
  | _, _, 0, _ => by simp [RepL]
  | [], _, n + 1, h => by cases h; exact rfl
  | w :: ws, _, n + 1, h => by
    obtain ⟨u, r, rfl, a, b⟩ := h
    exact ⟨u, r.take n, rfl, a, b.take n⟩
theorem RepL.drop : ∀ {ws : List W} {vs : List V} (n : Nat), RepL Γ ρ H ws vs → RepL Γ ρ H (ws.drop n) (vs.drop n)
  | _, _, 0, h => by simpa using h
  | [], _, n + 1, h => by cases h; exact rfl
  | w :: ws, _, n + 1, h => by
    obtain ⟨u, r, rfl, a, b⟩ := h
    exact b.drop n
theorem RepL.all {P : V → Bool} (h : RepL Γ ρ H ws vs) (k : ∀ w v, w ∈ ws → RepV Γ ρ H w v → P v = true) : vs.all P = true := by
  rw [List.all_eq_true]
  intro v hv
  obtain ⟨i, hi⟩ := List.getElem?_of_mem hv
  obtain ⟨w, hw, r⟩ := h.back hi
  exact k w v (List.mem_of_getElem? hw) r

theorem keyW_bd (n : Nat) (k : L2.Key) : (keyW k).bd n = true := by cases k <;> rfl
theorem bd_keys {n : Nat} (kvs : List (L2.Key × V)) : bdL n (kvs.map (fun p => keyW p.1)) = true := by
  induction kvs with
  | nil => rfl
  | cons p kvs ih => simp only [List.map_cons, bdL, ih, keyW_bd, Bool.and_self]
mutual
theorem RepV.bd : ∀ {w : W} {v : V}, RepV Γ ρ H w v → w.bd ρ.at_.length = true
  | .non, _, _ => by simp [W.bd]
  | .bl _, _, _ => by simp [W.bd]
  | .int _, _, _ => by simp [W.bd]
  | .str _, _, _ => by simp [W.bd]
  | .tup ws, _, h => by
    obtain ⟨a, vs, _, _, r⟩ := h
    simpa [W.bd] using RepL.bd r
  | .lst ws, _, h => by
    obtain ⟨a, vs, _, _, r⟩ := h
    simpa [W.bd] using RepL.bd r
  | .ro ws, _, h => by
    obtain ⟨a, vs, _, _, r⟩ := h
    simpa [W.bd] using RepL.bd r
  | .dct ks ws, _, h => by
    obtain ⟨a, kvs, _, _, k, r⟩ := h
    have hk : bdL ρ.at_.length ks = true := by rw [k]; exact bd_keys kvs
    simp only [W.bd, hk, RepL.bd r, Bool.and_self]
  | .ob c ns ws, _, h => by
    obtain ⟨a, C, dx, gs, _, _, _, _, r⟩ := h
    simpa [W.bd] using RepL.bd r
  | .loc n, _, h => by
    obtain ⟨a, _, t⟩ := h
    simpa [W.bd] using (List.getElem?_eq_some_iff.mp t).1
  | .exv _ _ none ws, _, h => by obtain ⟨_, rfl⟩ := h; simp [W.bd, bdL]
  | .exv _ _ (some (d, ns)) ws, _, h => by
    obtain ⟨_, gs, _, _, r⟩ := h
    simpa [W.bd] using RepL.bd r
  | .rng _ _, _, _ => by simp [W.bd]
  | .dctP ks ws, _, h => by
    obtain ⟨a, xs, us, _, _, _, _, r1, r2⟩ := h
    simp only [W.bd, RepL.bd r1, RepL.bd r2, Bool.and_self]
theorem RepL.bd : ∀ {ws : List W} {vs : List V}, RepL Γ ρ H ws vs → bdL ρ.at_.length ws = true
  | [], _, _ => by simp [bdL]
  | w :: ws, _, h => by
    obtain ⟨v, r, _, a, b⟩ := h
    simp [bdL, RepV.bd a, RepL.bd b]
end
mutual
/-- fewer places -/
theorem RepV.cut {n : Nat} (hp : ∀ (m : Nat) a, m < n → ρ.at_[m]? = some a → ρ'.at_[m]? = some a) (hs : ∀ a, (a ∉ ρ.at_ ∨ a ∈ ρ.fz) → a ∉ ρ.off → (a ∉ ρ'.at_ ∨ a ∈ ρ'.fz) ∧ a ∉ ρ'.off) : ∀ {w : W} {v : V}, w.bd n = true → RepV Γ ρ H w v → RepV Γ ρ' H w v
  | .non, _, _, h => h
  | .bl _, _, _, h => h
  | .int _, _, _, h => h
  | .str _, _, _, h => h
  | .tup ws, _, n, h => let ⟨a, vs, e, t, r⟩ := h; ⟨a, vs, e, t, RepL.cut hp hs (by simpa [W.bd] using n) r⟩
  | .lst ws, _, n, h => let ⟨a, vs, e, t, r⟩ := h; ⟨a, vs, e, t.cut hs, RepL.cut hp hs (by simpa [W.bd] using n) r⟩
  | .ro ws, _, n, h => let ⟨a, vs, e, t, r⟩ := h; ⟨a, vs, e, t.cut hs, RepL.cut hp hs (by simpa [W.bd] using n) r⟩
  | .dct ks ws, _, n, h => let ⟨a, kvs, e, t, k, r⟩ := h; ⟨a, kvs, e, t.cut hs, k, RepL.cut hp hs (by simp only [W.bd, Bool.and_eq_true] at n; exact n.2) r⟩
  | .ob c ns ws, _, n, h => let ⟨a, C, dx, gs, e, c1, t, k, r⟩ := h; ⟨a, C, dx, gs, e, c1, t.cut hs, k, RepL.cut hp hs (by simpa [W.bd] using n) r⟩
  | .loc m, _, n, h => let ⟨a, e, t⟩ := h; ⟨a, e, hp m a (by simpa [W.bd] using n) t⟩
  | .exv _ _ none _, _, n, h => h
  | .exv _ _ (some (d, ns)) ws, _, n, h => let ⟨e, gs, t, k, r⟩ := h; ⟨e, gs, t.cut hs, k, RepL.cut hp hs (by simpa [W.bd] using n) r⟩
  | .rng _ _, _, n, h => let ⟨a, e, t⟩ := h; ⟨a, e, t.cut hs⟩
  | .dctP ks ws, _, n, h => let ⟨a, xs, us, e, t, u, k, r1, r2⟩ := h; ⟨a, xs, us, e, t.cut hs, u, k, RepL.cut hp hs (by simp only [W.bd, Bool.and_eq_true] at n; exact n.1) r1, RepL.cut hp hs (by simp only [W.bd, Bool.and_eq_true] at n; exact n.2) r2⟩
theorem RepL.cut {n : Nat} (hp : ∀ (m : Nat) a, m < n → ρ.at_[m]? = some a → ρ'.at_[m]? = some a) (hs : ∀ a, (a ∉ ρ.at_ ∨ a ∈ ρ.fz) → a ∉ ρ.off → (a ∉ ρ'.at_ ∨ a ∈ ρ'.fz) ∧ a ∉ ρ'.off) : ∀ {ws : List W} {vs : List V}, bdL n ws = true → RepL Γ ρ H ws vs → RepL Γ ρ' H ws vs
  | [], _, _, h => h
  | w :: ws, _, n, h => by
    obtain ⟨v, r, e, a, b⟩ := h
    simp [bdL] at n
    exact ⟨v, r, e, RepV.cut hp hs n.1 a, RepL.cut hp hs n.2 b⟩
end

/-! attributes -/
def RepF (Γ : Gm) (ρ : Pl) (H : Hp) (fs : List (String × W)) (gs : List (Str × V)) : Prop := gs.map (·.1) = fs.map (fun p => Str.ofString p.1) ∧ RepL Γ ρ H (fs.map (·.2)) (gs.map (·.2))
def CellRep (Γ : Gm) (ρ : Pl) (H : Hp) : Cell → Addr → Prop
  | .lst ws, a => ∃ vs, H a = some (.lst vs) ∧ RepL Γ ρ H ws vs
  | .dict kws, a => ∃ kvs : List (L2.Key × V), H a = some (.dK kvs) ∧ kws.map (·.1) = kvs.map (fun p => keyW p.1) ∧ RepL Γ ρ H (kws.map (·.2)) (kvs.map (·.2))
  | .dictP kws, a => ∃ xs us, H a = some (dPO Γ.P Γ.w a xs) ∧ Vals us (xs.map (·.2.2)) ∧ toKeys (kws.map (·.1)) = xs.map (·.1) ∧ RepL Γ ρ H (kws.map (·.1)) (xs.map fun x => .ref x.2.1) ∧ RepL Γ ρ H (kws.map (·.2)) us
  | .obj c fs, a => ∃ C dx gs, Γ.oc c = some (.ref C) ∧ H a = some (.ins C dx gs) ∧ RepF Γ ρ H fs gs
  | .gone, a => ∃ o, H a = some o ∧ Mut (some o)
structure RelS (Γ : Gm) (ρ : Pl) (H : Hp) (st : Store) : Prop where
  len : ρ.at_.length = st.length
  nd : ρ.at_.Nodup
  at_ : ∀ (n : Nat) (c : Cell) (a : Addr), st[n]? = some c → ρ.at_[n]? = some a → CellRep Γ ρ H c a
  offs : ∀ a, a ∈ ρ.off → (∃ o, H a = some o ∧ Mut (some o)) ∧ a ∉ ρ.at_
  fz : ∀ (n : Nat) (c : Cell) (a : Addr), st[n]? = some c → ρ.at_[n]? = some a → (a ∈ ρ.fz ↔ c.isGone = true)
  fzs : ∀ a, a ∈ ρ.fz → a ∈ ρ.at_
structure RelE (Γ : Gm) (ρ : Pl) (H : Hp) (env : Env) (σ : L2.St) : Prop where
  len : env.length = σ.length
  at_ : ∀ (i : Nat) (w : W), env[i]? = some (some w) → ∃ v, σ[i]? = some (some v) ∧ RepV Γ ρ H w v
theorem RelE.ext0 {env : Env} {σ : L2.St} (x : Ext0 Γ ρ H ρ' H') (h : RelE Γ ρ H env σ) : RelE Γ ρ' H' env σ :=
  ⟨h.len, fun i w e => let ⟨v, e1, r⟩ := h.at_ i w e; ⟨v, e1, r.ext0 x⟩⟩
theorem RelE.ext {env : Env} {σ : L2.St} (x : Ext Γ ρ H ρ' H') (h : RelE Γ ρ H env σ) : RelE Γ ρ' H' env σ := h.ext0 x.zero
theorem RelE.set {env : Env} {σ : L2.St} (h : RelE Γ ρ H env σ) (i : Nat) (r : RepV Γ ρ H w v) : RelE Γ ρ H (env.set i (some w)) (σ.set i (some v)) := by
  refine ⟨by simp [h.len], fun j u e => ?_⟩
  by_cases hij : i = j
  · subst hij
    have hi : i < env.length := by
      have := (List.getElem?_eq_some_iff.mp e).1
      simpa using this
    rw [List.getElem?_set_self hi] at e
    cases e
    exact ⟨v, by rw [List.getElem?_set_self (by rw [← h.len]; exact hi)], r⟩
  · rw [List.getElem?_set_ne hij] at e
    obtain ⟨v', e1, r'⟩ := h.at_ j u e
    exact ⟨v', by rw [List.getElem?_set_ne hij]; exact e1, r'⟩
theorem RelS.get {n : Nat} {c : Cell} (h : RelS Γ ρ H st) (e : st[n]? = some c) : ∃ a, ρ.at_[n]? = some a ∧ CellRep Γ ρ H c a := by
  have hn : n < ρ.at_.length := by rw [h.len]; exact (List.getElem?_eq_some_iff.mp e).1
  exact ⟨ρ.at_[n], List.getElem?_eq_getElem hn, h.at_ n c _ e (List.getElem?_eq_getElem hn)⟩
theorem RelS.there (h : RelS Γ ρ H st) (ha : a ∈ ρ.at_) : ∃ o, H a = some o ∧ Mut (some o) := by
  obtain ⟨n, hn⟩ := List.getElem?_of_mem ha
  have hl : n < st.length := by rw [← h.len]; exact (List.getElem?_eq_some_iff.mp hn).1
  have q := h.at_ n st[n] a (List.getElem?_eq_getElem hl) hn
  cases e : st[n] with
  | lst ws => rw [e] at q; obtain ⟨vs, q, _⟩ := q; exact ⟨_, q, trivial⟩
  | dict kvs => rw [e] at q; obtain ⟨vs, q, _⟩ := q; exact ⟨_, q, trivial⟩
  | dictP kvs => rw [e] at q; obtain ⟨xs, us, q, _⟩ := q; exact ⟨_, q, trivial⟩
  | obj c fs => rw [e] at q; obtain ⟨C, dx, gs, _, q, _⟩ := q; exact ⟨_, q, trivial⟩
  | gone => rw [e] at q; exact q
theorem RelS.new_ni (h : RelS Γ ρ H st) (hp : H p = none) : p ∉ ρ.at_ := fun m => by
  obtain ⟨o, e, _⟩ := h.there m
  rw [hp] at e; cases e
theorem CellRep.ext {c : Cell} (x : Ext0 Γ ρ H ρ' H') (he : H' a = H a) (h : CellRep Γ ρ H c a) : CellRep Γ ρ' H' c a := by
  cases c with
  | lst ws => obtain ⟨vs, e, r⟩ := h; exact ⟨vs, by rw [he]; exact e, r.ext0 x⟩
  | dict kvs => obtain ⟨vs, e, k, r⟩ := h; exact ⟨vs, by rw [he]; exact e, k, r.ext0 x⟩
  | dictP kvs => obtain ⟨xs, us, e1, e2, e3, e4, e5⟩ := h; exact ⟨xs, us, by rw [he]; exact e1, e2, e3, e4.ext0 x, e5.ext0 x⟩
  | obj c fs => obtain ⟨C, dx, gs, e1, e2, e3, e4⟩ := h; exact ⟨C, dx, gs, e1, by rw [he]; exact e2, e3, e4.ext0 x⟩
  | gone => obtain ⟨o, e, m⟩ := h; exact ⟨o, by rw [he]; exact e, m⟩
theorem SqT.upd_new {o : HO} (hp : H p = none) (h : SqT Γ.K H a vs) : SqT Γ.K (upd H p o) a vs := by
  rcases h with (h | ⟨u, h⟩) | h
  · exact .inl (.inl (by rw [upd_ne (ne_of_none h hp)]; exact h))
  · exact .inl (.inr ⟨u, by rw [upd_ne (ne_of_none h hp)]; exact h⟩)
  · exact .inr h
theorem SqT.upd_mut {o u : HO} (hp : H p = some u) (hm : Mut (some u)) (h : SqT Γ.K H a vs) : SqT Γ.K (upd H p o) a vs := by
  rcases h with (h | ⟨u', h⟩) | h
  · exact .inl (.inl (by rw [upd_ne (ne_of h hp (by rintro rfl; exact hm))]; exact h))
  · exact .inl (.inr ⟨u', by rw [upd_ne (ne_of h hp (by rintro rfl; exact hm))]; exact h⟩)
  · exact .inr h
/-- a new object that the store does not know -/
theorem Ext.free {o : HO} (hp : H p = none) : Ext Γ ρ H ρ (upd H p o) :=
  ⟨fun _ _ h => h, fun _ _ h => SqT.upd_new hp h, fun b u e n => ⟨by rw [upd_ne (ne_of_none e hp)]; exact e, n⟩, rfl⟩
theorem RelS.free {o : HO} (h : RelS Γ ρ H st) (hp : H p = none) : RelS Γ ρ (upd H p o) st :=
  ⟨h.len, h.nd, fun n c b e1 e2 => (h.at_ n c b e1 e2).ext (Ext.free hp).zero (upd_ne fun z => h.new_ni hp (by rw [← z]; exact List.mem_of_getElem? e2)),
   fun b hb => let ⟨⟨u, e, mu⟩, n⟩ := h.offs b hb; ⟨⟨u, by rw [upd_ne (ne_of_none e hp)]; exact e, mu⟩, n⟩, h.fz, h.fzs⟩
/-- a new list of the store -/
theorem Ext.grow {o : HO} (h : RelS Γ ρ H st) (hp : H p = none) : Ext Γ ρ H (ρ.add p) (upd H p o) :=
  ⟨fun n b e => by show (ρ.at_ ++ [p])[n]? = _; rw [List.getElem?_append_left (List.getElem?_eq_some_iff.mp e).1]; exact e, fun _ _ q => SqT.upd_new hp q,
   fun b u e n => ⟨by rw [upd_ne (ne_of_none e hp)]; exact e, n.imp (fun n => by simp [Pl.add, n, ne_of_none e hp]) id⟩, rfl⟩
/-- the addresses of a grown store -/
theorem add_at {ρ : Pl} {n : Nat} {b : Addr} (e : (ρ.at_ ++ [p])[n]? = some b) : (n < ρ.at_.length ∧ ρ.at_[n]? = some b) ∨ (n = ρ.at_.length ∧ b = p) := by
  by_cases hn : n < ρ.at_.length
  · rw [List.getElem?_append_left hn] at e; exact .inl ⟨hn, e⟩
  · have hl := (List.getElem?_eq_some_iff.mp e).1
    have en : n = ρ.at_.length := by simp at hl; omega
    subst en
    rw [List.getElem?_append_right (Nat.le_refl _)] at e
    simp at e
    exact .inr ⟨rfl, e.symm⟩
theorem RelS.grow {c : Cell} {o : HO} (h : RelS Γ ρ H st) (hp : H p = none) (hc : CellRep Γ (ρ.add p) (upd H p o) c p) (hg : c.isGone = false := by rfl) : RelS Γ (ρ.add p) (upd H p o) (st ++ [c]) := by
  have x : Ext Γ ρ H (ρ.add p) (upd H p o) := Ext.grow h hp
  have hpn := h.new_ni hp
  refine ⟨by simp [Pl.add, h.len], ?_, fun n d b e1 e2 => ?_, fun b hb => let ⟨⟨u, e, mu⟩, n⟩ := h.offs b hb; ⟨⟨u, by rw [upd_ne (ne_of_none e hp)]; exact e, mu⟩, by simp [Pl.add, n, ne_of_none e hp]⟩, fun n d b e1 e2 => ?_, fun b hb => by
    show b ∈ ρ.at_ ++ [p]
    exact List.mem_append.2 (.inl (h.fzs b hb))⟩
  · show (ρ.at_ ++ [p]).Nodup
    rw [List.nodup_append]
    exact ⟨h.nd, by simp, fun b hb d hd => by simp at hd; subst hd; rintro rfl; exact hpn hb⟩
  · rcases add_at e2 with ⟨hn, e2⟩ | ⟨rfl, rfl⟩
    · rw [List.getElem?_append_left (by rw [← h.len]; exact hn)] at e1
      exact (h.at_ n d b e1 e2).ext x.zero (upd_ne fun z => hpn (by rw [← z]; exact List.mem_of_getElem? e2))
    · rw [h.len, List.getElem?_append_right (Nat.le_refl _)] at e1
      simp at e1
      subst e1
      exact hc
  · show b ∈ ρ.fz ↔ _
    rcases add_at e2 with ⟨hn, e2⟩ | ⟨rfl, rfl⟩
    · rw [List.getElem?_append_left (by rw [← h.len]; exact hn)] at e1
      exact h.fz n d b e1 e2
    · rw [h.len, List.getElem?_append_right (Nat.le_refl _)] at e1
      simp at e1
      subst e1
      rw [hg]
      simp
      exact fun z => hpn (h.fzs _ z)
theorem RelS.nfz {n : Nat} {d : Cell} (h : RelS Γ ρ H st) (hn : ρ.at_[n]? = some p) (e : st[n]? = some d) (hd : d.isGone = false) : p ∉ ρ.fz := fun z => by
  have := (h.fz n d p e hn).1 z
  rw [hd] at this; cases this
/-- a list of the store is changed -/
theorem Ext.write {n : Nat} {d : Cell} {o u : HO} (h : RelS Γ ρ H st) (hn : ρ.at_[n]? = some p) (e : st[n]? = some d) (hu : H p = some u) (hm : Mut (some u)) (hd : d.isGone = false := by rfl) : Ext Γ ρ H ρ (upd H p o) :=
  ⟨fun _ _ e => e, fun _ _ q => SqT.upd_mut hu hm q, fun b u' e' k => ⟨by
    rw [upd_ne fun z => ?_]
    · exact e'
    · rcases k with k | k
      · exact k (by rw [z]; exact List.mem_of_getElem? hn)
      · exact h.nfz hn e hd (by rw [← z]; exact k), k⟩, rfl⟩
theorem RelS.write {n : Nat} {c d : Cell} {o u : HO} (h : RelS Γ ρ H st) (hn : ρ.at_[n]? = some p) (e : st[n]? = some d) (hu : H p = some u) (hm : Mut (some u)) (hc : CellRep Γ ρ (upd H p o) c p) (hd : d.isGone = false := by rfl) (hg : c.isGone = false := by rfl) : RelS Γ ρ (upd H p o) (st.set n c) := by
  have hp : p ∈ ρ.at_ := List.mem_of_getElem? hn
  have hl : n < st.length := by rw [← h.len]; exact (List.getElem?_eq_some_iff.mp hn).1
  refine ⟨by simp [h.len], h.nd, fun m d' b e1 e2 => ?_, fun b hb => let ⟨⟨u, e, mu⟩, n⟩ := h.offs b hb; ⟨⟨u, by rw [upd_ne fun z => n (by rw [z]; exact hp)]; exact e, mu⟩, n⟩, fun m d' b e1 e2 => ?_, h.fzs⟩
  · by_cases hmn : n = m
    · subst hmn
      rw [hn] at e2; cases e2
      rw [List.getElem?_set_self hl] at e1; cases e1
      exact hc
    · rw [List.getElem?_set_ne hmn] at e1
      refine (h.at_ m d' b e1 e2).ext (Ext.write h hn e hu hm hd).zero (upd_ne ?_)
      rintro rfl
      exact hmn (nd_ix h.nd hn e2)
  · by_cases hmn : n = m
    · subst hmn
      rw [hn] at e2; cases e2
      rw [List.getElem?_set_self hl] at e1; cases e1
      rw [hg]
      simp
      exact h.nfz hn e hd
    · rw [List.getElem?_set_ne hmn] at e1
      exact h.fz m d' b e1 e2
/-- a list in the making begins -/
def Pl.hold (ρ : Pl) (p : Addr) : Pl := ⟨ρ.at_, p :: ρ.off, ρ.fz⟩
theorem Ext0.hold {o : HO} (hp : H p = none) : Ext0 Γ ρ H (ρ.hold p) (upd H p o) :=
  ⟨fun _ _ h => h, fun _ _ h => SqT.upd_new hp h, fun b u e n m => ⟨by rw [upd_ne (ne_of_none e hp)]; exact e, n, by simp [Pl.hold, m, ne_of_none e hp]⟩⟩
theorem RelS.hold {o : HO} (h : RelS Γ ρ H st) (hp : H p = none) (hm : Mut (some o) := by trivial) : RelS Γ (ρ.hold p) (upd H p o) st :=
  ⟨h.len, h.nd, fun n c b e1 e2 => (h.at_ n c b e1 e2).ext (Ext0.hold hp) (upd_ne fun z => h.new_ni hp (by rw [← z]; exact List.mem_of_getElem? e2)),
   fun b hb => by
    rcases List.mem_cons.mp hb with rfl | hb
    · exact ⟨⟨o, upd_same, hm⟩, h.new_ni hp⟩
    · obtain ⟨⟨u, e, mu⟩, n⟩ := h.offs b hb
      exact ⟨⟨u, by rw [upd_ne (ne_of_none e hp)]; exact e, mu⟩, n⟩, h.fz, h.fzs⟩
/-- .. goes on -/
theorem Ext0.making {o u : HO} (hp : p ∈ ρ.off) (hu : H p = some u) (hm : Mut (some u)) : Ext0 Γ ρ H ρ (upd H p o) :=
  ⟨fun _ _ h => h, fun _ _ h => SqT.upd_mut hu hm h, fun b u e n m => ⟨by rw [upd_ne fun z => m (by rw [z]; exact hp)]; exact e, n, m⟩⟩
theorem RelS.making {o u : HO} (h : RelS Γ ρ H st) (hp : p ∈ ρ.off) (hu : H p = some u) (hm : Mut (some u)) (hm2 : Mut (some o) := by trivial) : RelS Γ ρ (upd H p o) st :=
  ⟨h.len, h.nd, fun n c b e1 e2 => (h.at_ n c b e1 e2).ext (Ext0.making hp hu hm) (upd_ne fun z => (h.offs p hp).2 (by rw [← z]; exact List.mem_of_getElem? e2)),
   fun b hb => by
    obtain ⟨⟨u', e, mu⟩, n⟩ := h.offs b hb
    by_cases z : b = p
    · exact ⟨⟨o, by rw [z]; exact upd_same, hm2⟩, n⟩
    · exact ⟨⟨u', by rw [upd_ne z]; exact e, mu⟩, n⟩, h.fz, h.fzs⟩
theorem CellRep.cut {c : Cell} {n : Nat} (hp : ∀ (m : Nat) a, m < n → ρ.at_[m]? = some a → ρ'.at_[m]? = some a) (hs : ∀ a, (a ∉ ρ.at_ ∨ a ∈ ρ.fz) → a ∉ ρ.off → (a ∉ ρ'.at_ ∨ a ∈ ρ'.fz) ∧ a ∉ ρ'.off) (hb : c.bd n = true) (h : CellRep Γ ρ H c a) : CellRep Γ ρ' H c a := by
  cases c with
  | lst ws => obtain ⟨vs, e, r⟩ := h; exact ⟨vs, e, r.cut hp hs (by simpa [Cell.bd] using hb)⟩
  | dict kvs => obtain ⟨vs, e, k, r⟩ := h; exact ⟨vs, e, k, r.cut hp hs (by simp only [Cell.bd, Bool.and_eq_true] at hb; exact hb.2)⟩
  | dictP kvs => obtain ⟨xs, us, e1, e2, e3, e4, e5⟩ := h; exact ⟨xs, us, e1, e2, e3, e4.cut hp hs (by simp only [Cell.bd, Bool.and_eq_true] at hb; exact hb.1), e5.cut hp hs (by simp only [Cell.bd, Bool.and_eq_true] at hb; exact hb.2)⟩
  | obj c fs => obtain ⟨C, dx, gs, e1, e2, e3, e4⟩ := h; exact ⟨C, dx, gs, e1, e2, e3, e4.cut hp hs (by simpa [Cell.bd] using hb)⟩
  | gone => exact h
theorem CellRep.bd {c : Cell} (h : CellRep Γ ρ H c a) : c.bd ρ.at_.length = true := by
  cases c with
  | lst ws => obtain ⟨vs, e, r⟩ := h; simpa [Cell.bd] using r.bd
  | dict kvs => obtain ⟨vs, e, k, r⟩ := h; simp only [Cell.bd, k, bd_keys, r.bd, Bool.and_self]
  | dictP kvs => obtain ⟨xs, us, e1, e2, e3, e4, e5⟩ := h; simp only [Cell.bd, e4.bd, e5.bd, Bool.and_self]
  | obj c fs => obtain ⟨C, dx, gs, e1, e2, e3, e4⟩ := h; simpa [Cell.bd] using e4.bd
  | gone => rfl
/-- .. is done: the store without it -/
theorem done_hs {off : List Addr} (ho : ρ.off = p :: off) (a : Addr) (h1 : a ∉ ρ.at_ ∨ a ∈ ρ.fz) (h2 : a ∉ ρ.off) : (a ∉ (⟨ρ.at_, off, ρ.fz⟩ : Pl).at_ ∨ a ∈ (⟨ρ.at_, off, ρ.fz⟩ : Pl).fz) ∧ a ∉ (⟨ρ.at_, off, ρ.fz⟩ : Pl).off :=
  ⟨h1, fun z => h2 (by rw [ho]; exact List.mem_cons_of_mem _ z)⟩
theorem RelS.done {off : List Addr} (h : RelS Γ ρ H st) (ho : ρ.off = p :: off) : RelS Γ ⟨ρ.at_, off, ρ.fz⟩ H st := by
  refine ⟨h.len, h.nd, fun n c b e1 e2 => ?_, fun b hb => h.offs b (by rw [ho]; exact List.mem_cons_of_mem _ hb), h.fz, h.fzs⟩
  have q : CellRep Γ ρ H c b := h.at_ n c b e1 e2
  exact CellRep.cut (ρ := ρ) (n := ρ.at_.length) (fun _ _ _ q => q) (done_hs ho) q.bd q
/-- .. and with it -/
theorem RelS.doneAdd {off : List Addr} (h : RelS Γ ρ H st) (ho : ρ.off = p :: off) (hn : p ∉ off) (hd : H p = some (.lst vs)) (r : RepL Γ ρ H ws vs) : RelS Γ ⟨ρ.at_ ++ [p], off, ρ.fz⟩ H (st ++ [.lst ws]) := by
  have hs : ∀ a, (a ∉ ρ.at_ ∨ a ∈ ρ.fz) → a ∉ ρ.off → (a ∉ (⟨ρ.at_ ++ [p], off, ρ.fz⟩ : Pl).at_ ∨ a ∈ (⟨ρ.at_ ++ [p], off, ρ.fz⟩ : Pl).fz) ∧ a ∉ (⟨ρ.at_ ++ [p], off, ρ.fz⟩ : Pl).off := fun a h1 h2 => by
    rw [ho] at h2
    simp only [List.mem_cons, not_or] at h2
    refine ⟨h1.imp (fun n => ?_) id, h2.2⟩
    simp [n, h2.1]
  have hp : ∀ (m : Nat) a, m < ρ.at_.length → ρ.at_[m]? = some a → (⟨ρ.at_ ++ [p], off, ρ.fz⟩ : Pl).at_[m]? = some a := fun m a l q => by
    show (ρ.at_ ++ [p])[m]? = _
    rw [List.getElem?_append_left l]
    exact q
  have np : p ∉ ρ.at_ := (h.offs p (by rw [ho]; simp)).2
  refine ⟨by simp [h.len], ?_, fun n d b e1 e2 => ?_, fun b hb => ?_, fun n d b e1 e2 => ?_, fun b hb => List.mem_append.2 (.inl (h.fzs b hb))⟩
  · show (ρ.at_ ++ [p]).Nodup
    rw [List.nodup_append]
    exact ⟨h.nd, by simp, fun b hb d hd => by simp at hd; subst hd; rintro rfl; exact np hb⟩
  · rcases add_at e2 with ⟨hn, e2⟩ | ⟨rfl, rfl⟩
    · rw [List.getElem?_append_left (by rw [← h.len]; exact hn)] at e1
      exact (h.at_ n d b e1 e2).cut hp hs (h.at_ n d b e1 e2).bd
    · rw [h.len, List.getElem?_append_right (Nat.le_refl _)] at e1
      simp at e1
      subst e1
      exact ⟨vs, hd, r.cut hp hs r.bd⟩
  · obtain ⟨q, n⟩ := h.offs b (by rw [ho]; exact List.mem_cons_of_mem _ hb)
    refine ⟨q, ?_⟩
    show b ∉ ρ.at_ ++ [p]
    simp [n]
    rintro rfl
    exact hn hb
  · rcases add_at e2 with ⟨hn, e2⟩ | ⟨rfl, rfl⟩
    · rw [List.getElem?_append_left (by rw [← h.len]; exact hn)] at e1
      exact h.fz n d b e1 e2
    · rw [h.len, List.getElem?_append_right (Nat.le_refl _)] at e1
      simp at e1
      subst e1
      simp [Cell.isGone]
      exact fun z => np (h.fzs _ z)
end
end M

-- Sound
set_option Elab.async false
set_option autoImplicit false
set_option linter.all false
set_option maxRecDepth 100000
namespace M
open PySem L2

section
variable {Γ : Gm} {Z : WX} {σ : L2.St} {ρ ρ' ρ₁ ρ₂ : Pl} {H H' H₁ H₂ : Hp} {st st' s₁ : Store} {w w' : W} {ws ws' : List W} {v v' : V} {vs vs' : List V} {a p : Addr} {α β γ δ : Type}

def RepX (Γ : Gm) (ρ : Pl) (H : Hp) (x : Ex) (cls : Value) (d : Option Addr) : Prop := Γ.cl x.c = some cls ∧ match x.d with
  | none => d = none
  | some fs => ∃ da gs, d = some da ∧ H da = some (.xd gs) ∧ RepF Γ ρ H fs gs
/-- what a run's end asks of what is wanted -/
def Post (Γ : Gm) (rep : Pl → Hp → α → β → Prop) (Z : WX) (σ : L2.St) (ρ : Pl) (H : Hp) (Q : β → Hp → Prop) : R α → Prop
  | .ok w st' => ∀ v ρ' H', RelS Γ ρ' H' st' → Ext Γ ρ H ρ' H' → rep ρ' H' w v → Q v H'
  | .exc x st' => ∀ ρ' H' cls d, RelS Γ ρ' H' st' → Ext Γ ρ H ρ' H' → RepX Γ ρ' H' x cls d → Z cls d σ H'
  | .stuck => False
/-- a new list at a: the store without it, and with it -/
structure Fresh (Γ : Gm) (ρ : Pl) (H : Hp) (ρ' : Pl) (H' : Hp) (st' : Store) (ws : List W) (a : Addr) (vs : List V) : Prop where
  new : H a = none
  ob : H' a = some (.lst vs)
  na : a ∉ ρ'.at_
  no : a ∉ ρ'.off
  rel : RelS Γ ρ' H' st'
  add : RelS Γ (ρ'.add a) H' (st' ++ [.lst ws])
  x : Ext Γ ρ H ρ' H'
  rep : RepL Γ ρ' H' ws vs
/-- of a new list -/
def PostL (Γ : Gm) (Z : WX) (σ : L2.St) (ρ : Pl) (H : Hp) (Q : VK) : R (List W) → Prop
  | .ok ws st' => ∀ a vs ρ' H', Fresh Γ ρ H ρ' H' st' ws a vs → Q (.ref a) H'
  | .exc x st' => ∀ ρ' H' cls d, RelS Γ ρ' H' st' → Ext Γ ρ H ρ' H' → RepX Γ ρ' H' x cls d → Z cls d σ H'
  | .stuck => False
def PostS (Γ : Gm) (Z : WX) (D : Ends) (ρ : Pl) (H : Hp) : RS → Prop
  | .nx env st' => ∀ σ' ρ' H', RelS Γ ρ' H' st' → Ext Γ ρ H ρ' H' → RelE Γ ρ' H' env σ' → D.nx σ' H'
  | .ret w st' => ∀ v ρ' H', RelS Γ ρ' H' st' → Ext Γ ρ H ρ' H' → RepV Γ ρ' H' w v → D.rt v H'
  | .brk env st' => ∀ σ' ρ' H', RelS Γ ρ' H' st' → Ext Γ ρ H ρ' H' → RelE Γ ρ' H' env σ' → D.bk σ' H'
  | .cnt env st' => ∀ σ' ρ' H', RelS Γ ρ' H' st' → Ext Γ ρ H ρ' H' → RelE Γ ρ' H' env σ' → D.ct σ' H'
  | .exc x env st' => ∀ σ' ρ' H' cls d, RelS Γ ρ' H' st' → Ext Γ ρ H ρ' H' → RelE Γ ρ' H' env σ' → RepX Γ ρ' H' x cls d → Z cls d σ' H'
  | .stuck => False

def rd (Γ : Gm) (Z : WX) (ε : IE) : TE := fun σ H Q => ∃ ρ env st, RelS Γ ρ H st ∧ RelE Γ ρ H env σ ∧ Post Γ (RepV Γ) Z σ ρ H Q (ε env st)
def rdT (Γ : Gm) (Z : WX) (ε : IT) : TT := fun σ H Q => ∃ ρ env st, RelS Γ ρ H st ∧ RelE Γ ρ H env σ ∧ Post Γ (fun _ _ b c => b = c) Z σ ρ H Q (ε env st)
def rdA (Γ : Gm) (Z : WX) (ε : IL) : TA := fun σ H Q => ∃ ρ env st, RelS Γ ρ H st ∧ RelE Γ ρ H env σ ∧ Post Γ (RepL Γ) Z σ ρ H Q (ε env st)
def rdL (Γ : Gm) (Z : WX) (ε : IL) : TE := fun σ H Q => ∃ ρ env st, RelS Γ ρ H st ∧ RelE Γ ρ H env σ ∧ PostL Γ Z σ ρ H Q (ε env st)
def rdS (Γ : Gm) (Z : WX) (ς : IS) : TS := fun D σ H => ∃ ρ env st, RelS Γ ρ H st ∧ RelE Γ ρ H env σ ∧ PostS Γ Z D ρ H (ς env st)

theorem Fresh.last {ρ' : Pl} (f : Fresh Γ ρ H ρ' H' st' ws a vs) : (ρ'.add a).at_[st'.length]? = some a := by
  show (ρ'.at_ ++ [a])[st'.length]? = some a
  rw [List.getElem?_append_right (Nat.le_of_eq f.rel.len), f.rel.len]
  simp
theorem Fresh.xadd {ρ' : Pl} (f : Fresh Γ ρ H ρ' H' st' ws a vs) : Ext Γ ρ H (ρ'.add a) H' :=
  ⟨fun n b e => (by
    show (ρ'.at_ ++ [a])[n]? = _
    have q := f.x.pre n b e
    rw [List.getElem?_append_left (List.getElem?_eq_some_iff.mp q).1]
    exact q), f.x.tup, fun b o e n => (by
    obtain ⟨h1, h2⟩ := f.x.frm b o e n
    refine ⟨h1, h2.imp (fun h2 => ?_) id⟩
    show b ∉ ρ'.at_ ++ [a]
    simp only [List.mem_append, List.mem_singleton, not_or]
    exact ⟨h2, ne_of_none e f.new⟩), f.x.off⟩
theorem RelS.new_no {ρ : Pl} (h : RelS Γ ρ H st) (hp : H p = none) : p ∉ ρ.off := fun m => by
  obtain ⟨⟨o, e, _⟩, _⟩ := h.offs p m
  rw [hp] at e; cases e
theorem Fresh.of {ρ : Pl} (h : RelS Γ ρ H st) (hp : H p = none) (r : RepL Γ ρ H ws vs) : Fresh Γ ρ H ρ (upd H p (.lst vs)) st ws p vs :=
  ⟨hp, upd_same, h.new_ni hp, h.new_no hp, h.free hp, h.grow hp ⟨vs, upd_same, r.ext (Ext.grow h hp)⟩, .free hp, r.ext (.free hp)⟩
theorem Post.ext {rep : Pl → Hp → α → β → Prop} {Q : β → Hp → Prop} {r : R α} (x : Ext Γ ρ H ρ₁ H₁) (h : Post Γ rep Z σ ρ H Q r) : Post Γ rep Z σ ρ₁ H₁ Q r := by
  cases r with
  | ok w s => exact fun v ρ' H' a b c => h v ρ' H' a (x.trans b) c
  | exc e s => exact fun ρ' H' c d a b q => h ρ' H' c d a (x.trans b) q
  | stuck => exact h
theorem Post.mono {rep : Pl → Hp → α → β → Prop} {Q Q' : β → Hp → Prop} {r : R α} (h : Post Γ rep Z σ ρ H Q r) (k : ∀ v H', Q v H' → Q' v H') : Post Γ rep Z σ ρ H Q' r := by
  cases r with
  | ok w s => exact fun v ρ' H' a b c => k _ _ (h v ρ' H' a b c)
  | exc e s => exact h
  | stuck => exact h
theorem PostS.ext {D : Ends} {r : RS} (x : Ext Γ ρ H ρ₁ H₁) (h : PostS Γ Z D ρ H r) : PostS Γ Z D ρ₁ H₁ r := by
  cases r with
  | nx e s => exact fun v ρ' H' a b c => h v ρ' H' a (x.trans b) c
  | ret e s => exact fun v ρ' H' a b c => h v ρ' H' a (x.trans b) c
  | brk e s => exact fun v ρ' H' a b c => h v ρ' H' a (x.trans b) c
  | cnt e s => exact fun v ρ' H' a b c => h v ρ' H' a (x.trans b) c
  | exc e n s => exact fun σ' ρ' H' c d a b q z => h σ' ρ' H' c d a (x.trans b) q z
  | stuck => exact h
/-- nothing new but what the store's growth or a new object brings -/
theorem Ext.none_back {ρ ρ' : Pl} (hS : RelS Γ ρ H st) (x : Ext Γ ρ H ρ' H') (hS' : RelS Γ ρ' H' st') (h : H' a = none) : H a = none := by
  cases e : H a with
  | none => rfl
  | some o =>
    by_cases m : a ∈ ρ.at_
    · obtain ⟨n, hn⟩ := List.getElem?_of_mem m
      obtain ⟨u, hu, _⟩ := hS'.there (List.mem_of_getElem? (x.pre n a hn))
      rw [h] at hu; cases hu
    · rw [(x.frm a o e (.inl m)).1] at h; cases h
theorem PostL.ext {Q : VK} {r : R (List W)} (hS : RelS Γ ρ H st) (x : Ext Γ ρ H ρ₁ H₁) (hS₁ : RelS Γ ρ₁ H₁ s₁) (h : PostL Γ Z σ ρ H Q r) : PostL Γ Z σ ρ₁ H₁ Q r := by
  cases r with
  | ok w s => exact fun a vs ρ' H' f => h a vs ρ' H' ⟨x.none_back hS hS₁ f.new, f.ob, f.na, f.no, f.rel, f.add, x.trans f.x, f.rep⟩
  | exc e s => exact fun ρ' H' c d a b q => h ρ' H' c d a (x.trans b) q
  | stuck => exact h
/-- a run, then another one -/
theorem Post.bind {rep : Pl → Hp → α → β → Prop} {rep' : Pl → Hp → γ → δ → Prop} {Q : δ → Hp → Prop} {r : R α} {f : α → Store → R γ} (h : Post Γ rep' Z σ ρ H Q (r.bind f)) :
    Post Γ rep Z σ ρ H (fun v H1 => ∃ w s1 ρ1, r = .ok w s1 ∧ RelS Γ ρ1 H1 s1 ∧ Ext Γ ρ H ρ1 H1 ∧ rep ρ1 H1 w v ∧ Post Γ rep' Z σ ρ1 H1 Q (f w s1)) r := by
  cases r with
  | ok w s => exact fun v ρ' H' a b c => ⟨w, s, ρ', rfl, a, b, c, Post.ext b h⟩
  | exc e s => exact h
  | stuck => exact h
theorem Post.bindL {rep : Pl → Hp → α → β → Prop} {Q : VK} {r : R α} {f : α → Store → R (List W)} (hS : RelS Γ ρ H st) (h : PostL Γ Z σ ρ H Q (r.bind f)) :
    Post Γ rep Z σ ρ H (fun v H1 => ∃ w s1 ρ1, r = .ok w s1 ∧ RelS Γ ρ1 H1 s1 ∧ Ext Γ ρ H ρ1 H1 ∧ rep ρ1 H1 w v ∧ PostL Γ Z σ ρ1 H1 Q (f w s1)) r := by
  cases r with
  | ok w s => exact fun v ρ' H' a b c => ⟨w, s, ρ', rfl, a, b, c, PostL.ext hS b a h⟩
  | exc e s => exact h
  | stuck => exact h
theorem PostL.bind {rep' : Pl → Hp → γ → δ → Prop} {Q : δ → Hp → Prop} {r : R (List W)} {f : List W → Store → R γ} (h : Post Γ rep' Z σ ρ H Q (r.bind f)) :
    PostL Γ Z σ ρ H (fun v H1 => ∃ ws s1 ρ1 a vs, r = .ok ws s1 ∧ v = .ref a ∧ Fresh Γ ρ H ρ1 H1 s1 ws a vs ∧ Post Γ rep' Z σ ρ1 H1 Q (f ws s1)) r := by
  cases r with
  | ok w s => exact fun a vs ρ' H' f => ⟨w, s, ρ', a, vs, rfl, rfl, f, Post.ext f.x h⟩
  | exc e s => exact h
  | stuck => exact h
end

/-! ### a reading that asks more -/
section
variable {X : Cx} {e : Expr} {es : List Expr} {s : Stmt} {ss : List Stmt}
theorem PE.imp {t t' : TE} (h : PE X e t) (k : ∀ σ H Q, t' σ H Q → t σ H Q) : PE X e t' := ⟨fun pins s σ H Q I q => h.run pins s σ H Q I (k σ H Q q)⟩
theorem PT.imp {t t' : TT} (h : PT X e t) (k : ∀ σ H Q, t' σ H Q → t σ H Q) : PT X e t' := ⟨fun pins s σ H Q I q => h.run pins s σ H Q I (k σ H Q q)⟩
theorem PW.imp {t t' : TT} (h : PW X e t) (k : ∀ σ H Q, t' σ H Q → t σ H Q) : PW X e t' := ⟨fun wh pins s σ H Q I q => h.run wh pins s σ H Q I (k σ H Q q)⟩
theorem PA.imp {t t' : TA} (h : PA X es t) (k : ∀ σ H Q, t' σ H Q → t σ H Q) : PA X es t' := ⟨fun pos pins s σ H Q I q => h.run pos pins s σ H Q I (k σ H Q q)⟩
theorem PS.imp {t t' : TS} (h : PS X s t) (k : ∀ D σ H, t' D σ H → t D σ H) : PS X s t' := ⟨fun pins st σ H D I q => h.run pins st σ H D I (k D σ H q)⟩
theorem PSs.imp {t t' : TS} (h : PSs X ss t) (k : ∀ D σ H, t' D σ H → t D σ H) : PSs X ss t' := ⟨fun pins st σ H D I q => h.run pins st σ H D I (k D σ H q)⟩
theorem PG.imp {t t' : TG} (h : PG X e t) (k : ∀ v σ H Q, t' v σ H Q → t v σ H Q) : PG X e t' := ⟨fun pins st σ H v u Q I r q => h.run pins st σ H v u Q I r (k v σ H Q q)⟩
theorem PGs.imp {t t' : TGs} (h : PGs X es t) (k : ∀ v σ H Q, t' v σ H Q → t v σ H Q) : PGs X es t' := ⟨fun pins st σ H v u Q I r q => h.run pins st σ H v u Q I r (k v σ H Q q)⟩
end

/-! ### expressions -/
section
variable {Γ : Gm} {Z : WX} {X : Cx} {a b c : Expr} {es : List Expr} {pos : Pos} {α β : IE} {τ τ' : IT}
theorem i_var (i : Nat) {x : Str} (hN : X.N[i]? = some x := by rfl) (hv : Vis X.env.scope x := by first | exact Or.inl rfl | exact Or.inr (Or.inl rfl) | exact Or.inr (Or.inr rfl)) (hd : (x == ("__debug__" : Str)) = false := by decide)
    (hcd : (x == ("__classdict__" : Str)) = false := by decide) : PE X (.Name x pos) (rd Γ Z (eVar i)) := by
  refine PE.imp (pe_var hN hv hd hcd) ?_
  rintro σ H Q ⟨ρ, env, st, hS, hE, h⟩
  unfold eVar at h
  split at h
  · rename_i w e
    obtain ⟨v, e1, r⟩ := hE.at_ i w e
    exact ⟨v, e1, h v ρ H hS .refl r⟩
  · exact h.elim
theorem rd_c {w : W} {v : V} (r : ∀ ρ H, RepV Γ ρ H w v) {σ : L2.St} {H : Hp} {Q : VK} (h : rd Γ Z (eC w) σ H Q) : tC v σ H Q := by
  obtain ⟨ρ, env, st, hS, hE, h⟩ := h
  exact h v ρ H hS .refl (r ρ H)
theorem i_int {i j} : PE X (.Constant (.int i) j pos) (rd Γ Z (eC (.int i))) := PE.imp pe_int fun _ _ _ h => rd_c (w := .int i) (v := .int i) (fun _ _ => rfl) h
theorem i_bl {b j} : PE X (.Constant (.bool b) j pos) (rd Γ Z (eC (.bl b))) := PE.imp pe_bl fun _ _ _ h => rd_c (w := .bl b) (v := .bl b) (fun _ _ => rfl) h
theorem i_non {j} : PE X (.Constant .none j pos) (rd Γ Z (eC .non)) := PE.imp pe_non fun _ _ _ h => rd_c (w := .non) (v := .non) (fun _ _ => rfl) h
theorem i_str {x j} {s : List Nat} (hs : x.cps.toList = s := by rfl) : PE X (.Constant (.str x) j pos) (rd Γ Z (eC (.str s))) := PE.imp pe_str fun _ _ _ h => rd_c (w := .str s) (v := .str x) (fun _ _ => ⟨x, rfl, hs⟩) h

/-- a two-place operation by values -/
def SemOp (Γ : Gm) (r : R2) (f : W → W → Store → R W) : Prop := ∀ (Z : WX) (σ : L2.St) (ρ : Pl) (H : Hp) (st : Store) (x y : W) (xv yv : V) (Q : VK), RelS Γ ρ H st → RepV Γ ρ H x xv → RepV Γ ρ H y yv → Post Γ (RepV Γ) Z σ ρ H Q (f x y st) → r xv yv H Q
theorem rd_op {r : R2} {f : W → W → Store → R W} (hf : SemOp Γ r f) {σ : L2.St} {H : Hp} {Q : VK} (h : rd Γ Z (eOp f α β) σ H Q) : tOp r (rd Γ Z α) (rd Γ Z β) σ H Q := by
  obtain ⟨ρ, env, st, hS, hE, h⟩ := h
  refine ⟨ρ, env, st, hS, hE, (Post.bind h).mono ?_⟩
  rintro v H1 ⟨w, s1, ρ1, e1, hS1, x1, r1, h1⟩
  refine ⟨ρ1, env, s1, hS1, hE.ext x1, (Post.bind h1).mono ?_⟩
  rintro u H2 ⟨w2, s2, ρ2, e2, hS2, x2, r2, h2⟩
  exact hf Z σ ρ2 H2 s2 w w2 v u Q hS2 (r1.ext x2) r2 h2
theorem i_op {op : Operator} {r : R2} {f : W → W → Store → R W} (ho : OpR X (binaryOp op) r) (hf : SemOp Γ r f) (ha : PE X a (rd Γ Z α)) (hb : PE X b (rd Γ Z β)) : PE X (.BinOp a op b pos) (rd Γ Z (eOp f α β)) :=
  PE.imp (pe_op ho ha hb) fun _ _ _ h => rd_op hf h
theorem i_cmp {op : CmpOp} {r : R2} {f : W → W → Store → R W} (ho : OpR X (compareOp op) r) (hf : SemOp Γ r f) (ha : PE X a (rd Γ Z α)) (hb : PE X b (rd Γ Z β)) (hm : behindInMarks op b = false) : PE X (.Compare a [op] [b] pos) (rd Γ Z (eOp f α β)) :=
  PE.imp (pe_cmpR ho ha hb hm) fun _ _ _ h => rd_op hf h
def SemUn (Γ : Gm) (r : V → Hp → VK → Prop) (f : W → Store → R W) : Prop := ∀ (Z : WX) (σ : L2.St) (ρ : Pl) (H : Hp) (st : Store) (x : W) (xv : V) (Q : VK), RelS Γ ρ H st → RepV Γ ρ H x xv → Post Γ (RepV Γ) Z σ ρ H Q (f x st) → r xv H Q
theorem i_un {op : UnaryOp} {r : V → Hp → VK → Prop} {f : W → Store → R W} (ho : UnR X (unaryOp op) r) (hf : SemUn Γ r f) (ha : PE X a (rd Γ Z α)) : PE X (.UnaryOp op a pos) (rd Γ Z (eUn f α)) := by
  refine PE.imp (pe_un ho ha) ?_
  rintro σ H Q ⟨ρ, env, st, hS, hE, h⟩
  refine ⟨ρ, env, st, hS, hE, (Post.bind h).mono ?_⟩
  rintro v H1 ⟨w, s1, ρ1, e1, hS1, x1, r1, h1⟩
  exact hf Z σ ρ1 H1 s1 w v Q hS1 r1 h1

/-! a test whose value is True or False -/
theorem rd_test {σ : L2.St} {H : Hp} {Q : Bool → Hp → Prop} (h : rdT Γ Z (tVal α) σ H Q) : rd Γ Z α σ H fun x H' => ∃ k, x = .bl k ∧ Q k H' := by
  obtain ⟨ρ, env, st, hS, hE, h⟩ := h
  refine ⟨ρ, env, st, hS, hE, (Post.bind h).mono ?_⟩
  rintro v H1 ⟨w, s1, ρ1, e1, hS1, x1, r1, h1⟩
  cases w with
  | bl c => cases r1; exact ⟨c, rfl, h1 c ρ1 H1 hS1 .refl rfl⟩
  | _ => exact h1.elim
theorem j_val (ha : PE X a (rd Γ Z α)) (he : ∀ whole, isTrue a X.env whole = (do let v ← whole; standAt a.pos; holding [v] (truthy v)) := by intro _; rfl) : PT X a (rdT Γ Z (tVal α)) :=
  PT.imp (pt_val ha he) fun _ _ _ h => rd_test h
theorem j_cmp {op : CmpOp} {r : R2} {f : W → W → Store → R W} (ho : OpR X (compareOp op) r) (hf : SemOp Γ r f) (ha : PE X a (rd Γ Z α)) (hb : PE X b (rd Γ Z β)) (hm : behindInMarks op b = false) : PT X (.Compare a [op] [b] pos) (rdT Γ Z (tVal (eOp f α β))) := by
  refine PT.imp (pt_cmpR ho ha hb hm) ?_
  intro σ H Q h
  obtain ⟨ρ, env, st, hS, hE, h⟩ := rd_test h
  exact rd_op (Z := Z) hf ⟨ρ, env, st, hS, hE, h⟩
theorem rd_and {σ : L2.St} {H : Hp} {Q : Bool → Hp → Prop} (h : rdT Γ Z (M.tAnd τ τ') σ H Q) : L2.tAnd (rdT Γ Z τ) (rdT Γ Z τ') σ H Q := by
  obtain ⟨ρ, env, st, hS, hE, h⟩ := h
  refine ⟨ρ, env, st, hS, hE, (Post.bind h).mono ?_⟩
  rintro v H1 ⟨w, s1, ρ1, e1, hS1, x1, r1, h1⟩
  subst r1
  cases w with
  | true => exact ⟨ρ1, env, s1, hS1, hE.ext x1, h1⟩
  | false => exact h1 false ρ1 H1 hS1 .refl rfl
theorem rd_or {σ : L2.St} {H : Hp} {Q : Bool → Hp → Prop} (h : rdT Γ Z (M.tOr τ τ') σ H Q) : L2.tOr (rdT Γ Z τ) (rdT Γ Z τ') σ H Q := by
  obtain ⟨ρ, env, st, hS, hE, h⟩ := h
  refine ⟨ρ, env, st, hS, hE, (Post.bind h).mono ?_⟩
  rintro v H1 ⟨w, s1, ρ1, e1, hS1, x1, r1, h1⟩
  subst r1
  cases w with
  | true => exact h1 true ρ1 H1 hS1 .refl rfl
  | false => exact ⟨ρ1, env, s1, hS1, hE.ext x1, h1⟩
theorem jw_and {rest : List Expr} (ha : PT X a (rdT Γ Z τ)) (hb : PW X (.BoolOp .And (b :: rest) pos) (rdT Γ Z τ')) : PW X (.BoolOp .And (a :: b :: rest) pos) (rdT Γ Z (M.tAnd τ τ')) := PW.imp (pw_and ha hb) fun _ _ _ h => rd_and h
theorem jw_or {rest : List Expr} (ha : PT X a (rdT Γ Z τ)) (hb : PW X (.BoolOp .Or (b :: rest) pos) (rdT Γ Z τ')) : PW X (.BoolOp .Or (a :: b :: rest) pos) (rdT Γ Z (M.tOr τ τ')) := PW.imp (pw_or ha hb) fun _ _ _ h => rd_or h
theorem j_not (ha : PT X a (rdT Γ Z τ)) : PT X (.UnaryOp .Not a pos) (rdT Γ Z (M.tNot τ)) := by
  refine PT.imp (pt_not ha) ?_
  rintro σ H Q ⟨ρ, env, st, hS, hE, h⟩
  refine ⟨ρ, env, st, hS, hE, (Post.bind h).mono ?_⟩
  rintro v H1 ⟨w, s1, ρ1, e1, hS1, x1, r1, h1⟩
  subst r1
  exact h1 _ ρ1 H1 hS1 .refl rfl
theorem i_and {rest : List Expr} (ha : PE X a (rd Γ Z α)) (hb : PE X (.BoolOp .And (b :: rest) pos) (rd Γ Z β)) : PE X (.BoolOp .And (a :: b :: rest) pos) (rd Γ Z (eAndV α β)) := by
  refine PE.imp (pe_and ha hb) ?_
  rintro σ H Q ⟨ρ, env, st, hS, hE, h⟩
  refine ⟨ρ, env, st, hS, hE, (Post.bind h).mono ?_⟩
  rintro v H1 ⟨w, s1, ρ1, e1, hS1, x1, r1, h1⟩
  cases w with
  | bl c =>
    cases r1
    cases c with
    | true => exact ⟨true, rfl, ⟨ρ1, env, s1, hS1, hE.ext x1, h1⟩⟩
    | false => exact ⟨false, rfl, h1 _ ρ1 H1 hS1 .refl rfl⟩
  | _ => exact h1.elim
theorem i_or {rest : List Expr} (ha : PE X a (rd Γ Z α)) (hb : PE X (.BoolOp .Or (b :: rest) pos) (rd Γ Z β)) : PE X (.BoolOp .Or (a :: b :: rest) pos) (rd Γ Z (eOrV α β)) := by
  refine PE.imp (pe_or ha hb) ?_
  rintro σ H Q ⟨ρ, env, st, hS, hE, h⟩
  refine ⟨ρ, env, st, hS, hE, (Post.bind h).mono ?_⟩
  rintro v H1 ⟨w, s1, ρ1, e1, hS1, x1, r1, h1⟩
  cases w with
  | bl c =>
    cases r1
    cases c with
    | true => exact ⟨true, rfl, h1 _ ρ1 H1 hS1 .refl rfl⟩
    | false => exact ⟨false, rfl, ⟨ρ1, env, s1, hS1, hE.ext x1, h1⟩⟩
  | _ => exact h1.elim
theorem i_not (ha : PE X a (rd Γ Z α)) : PE X (.UnaryOp .Not a pos) (rd Γ Z (eNotV α)) := by
  refine PE.imp (pe_not ha) ?_
  rintro σ H Q ⟨ρ, env, st, hS, hE, h⟩
  refine ⟨ρ, env, st, hS, hE, (Post.bind h).mono ?_⟩
  rintro v H1 ⟨w, s1, ρ1, e1, hS1, x1, r1, h1⟩
  cases w with
  | bl c => cases r1; exact ⟨c, rfl, h1 _ ρ1 H1 hS1 .refl rfl⟩
  | _ => exact h1.elim
theorem i_ifExp (hc : PT X c (rdT Γ Z τ)) (ha : PE X a (rd Γ Z α)) (hb : PE X b (rd Γ Z β)) : PE X (.IfExp c a b pos) (rd Γ Z (eIf τ α β)) := by
  refine PE.imp (pe_ifExp hc ha hb) ?_
  rintro σ H Q ⟨ρ, env, st, hS, hE, h⟩
  refine ⟨ρ, env, st, hS, hE, (Post.bind h).mono ?_⟩
  rintro v H1 ⟨w, s1, ρ1, e1, hS1, x1, r1, h1⟩
  subst r1
  cases w with
  | true => exact ⟨ρ1, env, s1, hS1, hE.ext x1, h1⟩
  | false => exact ⟨ρ1, env, s1, hS1, hE.ext x1, h1⟩

/-! arguments, displays -/
theorem a_nil : PA X [] (rdA Γ Z (eArgs [])) := PA.imp pa_nil fun σ H Q ⟨ρ, env, st, hS, hE, h⟩ => h [] ρ H hS .refl rfl
theorem a_cons {αs : List IE} (ha : PE X a (rd Γ Z α)) (hr : PA X es (rdA Γ Z (eArgs αs))) (hs : starEach (a :: es) X.env = (false, eval a X.env) :: starEach es X.env := by rfl) : PA X (a :: es) (rdA Γ Z (eArgs (α :: αs))) := by
  refine PA.imp (pa_cons ha hr hs) ?_
  rintro σ H Q ⟨ρ, env, st, hS, hE, h⟩
  refine ⟨ρ, env, st, hS, hE, (Post.bind h).mono ?_⟩
  rintro v H1 ⟨w, s1, ρ1, e1, hS1, x1, r1, h1⟩
  refine ⟨ρ1, env, s1, hS1, hE.ext x1, (Post.bind h1).mono ?_⟩
  rintro u H2 ⟨w2, s2, ρ2, e2, hS2, x2, r2, h2⟩
  exact h2 (v :: u) ρ2 H2 hS2 .refl (.cons (r1.ext x2) r2)
theorem i_tup {αs : List IE} {x1} (h : PA X es (rdA Γ Z (eArgs αs))) (hl : es.length ≤ 1000 := by decide) (hl2 : αs.length = es.length := by rfl) : PE X (.Tuple es x1 pos) (rd Γ Z (eTup αs)) := by
  refine PE.imp (pe_tup h) ?_
  rintro σ H Q ⟨ρ, env, st, hS, hE, h⟩
  refine ⟨ρ, env, st, hS, hE, ?_⟩
  have len : ∀ (αs : List IE) env st ws s, eArgs αs env st = .ok ws s → ws.length = αs.length := by
    intro αs
    induction αs with
    | nil => intro env st ws s e; cases e; rfl
    | cons a r ih =>
      intro env st ws s e
      unfold eArgs at e
      cases h1 : a env st with
      | ok w s1 =>
        rw [h1] at e
        cases h2 : eArgs r env s1 with
        | ok xs s2 => simp [h2] at e; obtain ⟨rfl, _⟩ := e; simp [ih _ _ _ _ h2]
        | exc x s2 => simp [h2] at e
        | stuck => simp [h2] at e
      | exc x s1 => rw [h1] at e; cases e
      | stuck => rw [h1] at e; cases e
  refine (Post.bind h).mono ?_
  rintro v H1 ⟨w, s1, ρ1, e1, hS1, x1, r1, h1⟩
  refine ⟨?_, fun p hp => ?_⟩
  · rw [r1.len, len _ _ _ _ _ e1, hl2]
    exact Nat.le_trans hl (by decide)
  · exact h1 (.ref p) ρ1 _ (hS1.free hp) (.free hp) ⟨p, v, rfl, .of upd_same, r1.ext (.free hp)⟩
/-- a list display -/
def lArgs (αs : List IE) : IL := eArgs αs
theorem l_lst {αs : List IE} (h : PA X es (rdA Γ Z (eArgs αs))) (hl : es.length ≤ 1000 := by decide) (hl2 : αs.length = es.length := by rfl) : PE X (.List es pos) (rdL Γ Z (eArgs αs)) := by
  refine PE.imp (pe_lst h) ?_
  rintro σ H Q ⟨ρ, env, st, hS, hE, h⟩
  refine ⟨ρ, env, st, hS, hE, ?_⟩
  have len : ∀ (αs : List IE) env st ws s, eArgs αs env st = .ok ws s → ws.length = αs.length := by
    intro αs
    induction αs with
    | nil => intro env st ws s e; cases e; rfl
    | cons a r ih =>
      intro env st ws s e
      unfold eArgs at e
      cases h1 : a env st with
      | ok w s1 =>
        rw [h1] at e
        cases h2 : eArgs r env s1 with
        | ok xs s2 => simp [h2] at e; obtain ⟨rfl, _⟩ := e; simp [ih _ _ _ _ h2]
        | exc x s2 => simp [h2] at e
        | stuck => simp [h2] at e
      | exc x s1 => rw [h1] at e; cases e
      | stuck => rw [h1] at e; cases e
  cases e1 : eArgs αs env st with
  | ok ws s1 =>
    rw [e1] at h
    refine fun v ρ1 H1 hS1 x1 r1 => ⟨?_, fun p hp => ?_⟩
    · rw [r1.len, len _ _ _ _ _ e1, hl2]
      exact Nat.le_trans hl (by decide)
    · have f := Fresh.of (ws := ws) hS1 hp r1
      exact h p v ρ1 _ ⟨x1.none_back hS hS1 hp, f.ob, f.na, f.no, f.rel, f.add, x1.trans f.x, f.rep⟩
  | exc x s1 => rw [e1] at h; exact h
  | stuck => rw [e1] at h; exact h
/-- a new list, by value; one that may be changed -/
theorem i_lst {l : IL} (h : PE X a (rdL Γ Z l)) : PE X a (rd Γ Z (eLst l)) := by
  refine PE.imp h ?_
  rintro σ H Q ⟨ρ, env, st, hS, hE, h⟩
  refine ⟨ρ, env, st, hS, hE, ?_⟩
  cases e : l env st with
  | ok ws s =>
    unfold eLst at h; rw [e] at h
    exact fun a vs ρ' H' f => h (.ref a) ρ' H' f.rel f.x ⟨a, vs, rfl, ⟨f.ob, .inl f.na, f.no⟩, f.rep⟩
  | exc x s => unfold eLst at h; rw [e] at h; exact h
  | stuck => unfold eLst at h; rw [e] at h; exact h
theorem i_new {l : IL} (h : PE X a (rdL Γ Z l)) : PE X a (rd Γ Z (eNew l)) := by
  refine PE.imp h ?_
  rintro σ H Q ⟨ρ, env, st, hS, hE, h⟩
  refine ⟨ρ, env, st, hS, hE, ?_⟩
  cases e : l env st with
  | ok ws s =>
    unfold eNew at h; rw [e] at h
    exact fun a vs ρ' H' f => h (.ref a) (ρ'.add a) H' f.add f.xadd ⟨a, rfl, f.last⟩
  | exc x s => unfold eNew at h; rw [e] at h; exact h
  | stuck => unfold eNew at h; rw [e] at h; exact h
end
end M

-- Sound2
set_option Elab.async false
set_option autoImplicit false
set_option linter.all false
set_option maxRecDepth 100000
namespace M
open PySem L2
section
variable {Γ : Gm} {Z : WX} {X : Cx} {a b c e : Expr} {es : List Expr} {s : Stmt} {ss : List Stmt} {pos : Pos} {α β : IE} {τ τ' : IT} {ς ς' : IS}

/-! ### blocks and small statements -/
theorem p_nil : PSs X [] (rdS Γ Z sSkip) := PSs.imp pss_nil fun D σ H ⟨ρ, env, st, hS, hE, h⟩ => h σ ρ H hS .refl hE
theorem rd_seq {D : Ends} {σ : L2.St} {H : Hp} (h : rdS Γ Z (sSeq ς ς') D σ H) : tSeq (rdS Γ Z ς) (rdS Γ Z ς') D σ H := by
  obtain ⟨ρ, env, st, hS, hE, h⟩ := h
  refine ⟨ρ, env, st, hS, hE, ?_⟩
  unfold sSeq at h
  cases e : ς env st with
  | nx e1 s1 => rw [e] at h; exact fun σ' ρ' H' a x b => ⟨ρ', e1, s1, a, b, PostS.ext x h⟩
  | ret w s1 => rw [e] at h; exact h
  | brk e1 s1 => rw [e] at h; exact h
  | cnt e1 s1 => rw [e] at h; exact h
  | exc x e1 s1 => rw [e] at h; exact h
  | stuck => rw [e] at h; exact h
theorem p_cons (h1 : PS X s (rdS Γ Z ς)) (h2 : PSs X ss (rdS Γ Z ς')) : PSs X (s :: ss) (rdS Γ Z (sSeq ς ς')) := PSs.imp (pss_cons h1 h2) fun _ _ _ h => rd_seq h
theorem p_one (h : PS X s (rdS Γ Z ς)) : PSs X [s] (rdS Γ Z ς) := pss_one h
theorem s_pass : PS X (.Pass pos) (rdS Γ Z sSkip) := PS.imp ps_pass fun D σ H ⟨ρ, env, st, hS, hE, h⟩ => h σ ρ H hS .refl hE
theorem s_doc {x j pos'} : PS X (.Expr (.Constant (.str x) j pos) pos') (rdS Γ Z sSkip) := PS.imp ps_doc fun D σ H ⟨ρ, env, st, hS, hE, h⟩ => h σ ρ H hS .refl hE
theorem s_brk : PS X (.Break pos) (rdS Γ Z sBrk) := PS.imp ps_break fun D σ H ⟨ρ, env, st, hS, hE, h⟩ => h σ ρ H hS .refl hE
theorem s_cnt : PS X (.Continue pos) (rdS Γ Z sCnt) := PS.imp ps_continue fun D σ H ⟨ρ, env, st, hS, hE, h⟩ => h σ ρ H hS .refl hE
theorem s_never : PS X s (rdS Γ Z sNever) := PS.imp ps_never fun D σ H ⟨ρ, env, st, hS, hE, h⟩ => h
theorem p_never : PSs X ss (rdS Γ Z sNever) := PSs.imp pss_never fun D σ H ⟨ρ, env, st, hS, hE, h⟩ => h
theorem rd_asg {i : Nat} {D : Ends} {σ : L2.St} {H : Hp} (h : rdS Γ Z (sSet i α) D σ H) : tAsg (rd Γ Z α) (gName i) D σ H := by
  obtain ⟨ρ, env, st, hS, hE, h⟩ := h
  refine ⟨ρ, env, st, hS, hE, ?_⟩
  unfold sSet at h
  cases e : α env st with
  | ok w s => rw [e] at h; exact fun v ρ' H' a x r => h _ ρ' H' a x ((hE.ext x).set i r)
  | exc x s => rw [e] at h; exact fun ρ' H' c d a y r => h σ ρ' H' c d a y (hE.ext y) r
  | stuck => rw [e] at h; exact h
theorem s_set {i : Nat} {x : Str} {pos' : Pos} (hN : X.N.Nodup) (he : PE X e (rd Γ Z α)) (hi : X.N[i]? = some x := by rfl) (hx : Loc X.env.scope x := by first | exact .inl rfl | exact .inr rfl) (hs : swapsWith e (some (.Name x pos')) pos.line X.env = pure false := by rfl)
    (hf : X.fn x = true ∨ X.env.scope.names.lookup x = some .local := by first | exact .inl rfl | exact .inr rfl) : PS X (.Assign [.Name x pos'] e pos) (rdS Γ Z (sSet i α)) :=
  PS.imp (ps_set hN hi hx he hs hf) fun _ _ _ h => rd_asg h
theorem s_expr (he : PE X e (rd Γ Z α)) (hs : swapsWith e none pos.line X.env = pure false := by rfl) : PS X (.Expr e pos) (rdS Γ Z (sDrop α)) := by
  refine PS.imp (ps_expr he hs) ?_
  rintro D σ H ⟨ρ, env, st, hS, hE, h⟩
  refine ⟨ρ, env, st, hS, hE, ?_⟩
  unfold sDrop at h
  cases e : α env st with
  | ok w s => rw [e] at h; exact fun v ρ' H' a x r => h σ ρ' H' a x (hE.ext x)
  | exc x s => rw [e] at h; exact fun ρ' H' c d a y r => h σ ρ' H' c d a y (hE.ext y) r
  | stuck => rw [e] at h; exact h
theorem s_ret (he : PE X e (rd Γ Z α)) : PS X (.Return (some e) pos) (rdS Γ Z (sRet α)) := by
  refine PS.imp (ps_ret he) ?_
  rintro D σ H ⟨ρ, env, st, hS, hE, h⟩
  refine ⟨ρ, env, st, hS, hE, ?_⟩
  unfold sRet at h
  cases e : α env st with
  | ok w s => rw [e] at h; exact fun v ρ' H' a x r => h v ρ' H' a x r
  | exc x s => rw [e] at h; exact fun ρ' H' c d a y r => h σ ρ' H' c d a y (hE.ext y) r
  | stuck => rw [e] at h; exact h
theorem s_retN : PS X (.Return none pos) (rdS Γ Z (sRet (eC .non))) := PS.imp ps_retN fun D σ H ⟨ρ, env, st, hS, hE, h⟩ => h .non ρ H hS .refl rfl
theorem s_if {as bs : List Stmt} (hc : PT X c (rdT Γ Z τ)) (ha : PSs X as (rdS Γ Z ς)) (hb : PSs X bs (rdS Γ Z ς')) : PS X (.If c as bs pos) (rdS Γ Z (sIf τ ς ς')) := by
  refine PS.imp (ps_if hc ha hb) ?_
  rintro D σ H ⟨ρ, env, st, hS, hE, h⟩
  refine ⟨ρ, env, st, hS, hE, ?_⟩
  unfold sIf at h
  cases e : τ env st with
  | ok c s =>
    rw [e] at h
    rintro k ρ' H' a x rfl
    cases c with
    | true => exact ⟨ρ', env, s, a, hE.ext x, PostS.ext x h⟩
    | false => exact ⟨ρ', env, s, a, hE.ext x, PostS.ext x h⟩
  | exc x s => rw [e] at h; exact fun ρ' H' c d a y r => h σ ρ' H' c d a y (hE.ext y) r
  | stuck => rw [e] at h; exact h

/-! ### targets -/
def rdG (Γ : Gm) (g : Tg) : TG := fun v σ H Q => ∃ ρ env w e, RelE Γ ρ H env σ ∧ RepV Γ ρ H w v ∧ g.run w env = some e ∧ ∀ σ', RelE Γ ρ H e σ' → (∀ j, j ∉ g.slots → σ'[j]? = σ[j]?) → σ'.length = σ.length → Q σ' H
def rdGs (Γ : Gm) (gs : List Tg) : TGs := fun vs σ H Q => ∃ ρ env ws e, RelE Γ ρ H env σ ∧ RepL Γ ρ H ws vs ∧ tgAll gs ws env = some e ∧ ∀ σ', RelE Γ ρ H e σ' → (∀ j, j ∉ gs.flatMap (·.slots) → σ'[j]? = σ[j]?) → σ'.length = σ.length → Q σ' H
theorem g_name (i : Nat) {x : Str} (hN : X.N.Nodup) (hi : X.N[i]? = some x := by rfl) (hx : Loc X.env.scope x := by first | exact .inl rfl | exact .inr rfl) (hf : X.fn x = true ∨ X.env.scope.names.lookup x = some .local := by first | exact .inl rfl | exact .inr rfl) :
    PG X (.Name x pos) (rdG Γ (tgName i)) := by
  refine PG.imp (pg_name hN hi hx hf) ?_
  rintro v σ H Q ⟨ρ, env, w, e, hE, r, eq, k⟩
  simp only [tgName, Option.some.injEq] at eq
  subst eq
  exact k _ (hE.set i r) (fun j hj => by rw [List.getElem?_set_ne (by simpa [tgName, eq_comm] using hj)]) (by simp)
theorem gs_nil : PGs X [] (rdGs Γ []) := by
  refine ⟨fun pins s σ H vs us Q I r h => pgs_nil.run pins s σ H vs us Q I r ?_⟩
  obtain ⟨ρ, env, ws, e, hE, rl, eq, k⟩ := h
  cases ws with
  | nil => cases rl; simp [tgAll] at eq; subst eq; exact ⟨rfl, k σ hE (fun _ _ => rfl) rfl⟩
  | cons w ws => simp [tgAll] at eq
theorem gs_cons {g : Tg} {gs : List Tg} (h1 : PG X e (rdG Γ g)) (h2 : PGs X es (rdGs Γ gs)) (hs : (assignEach (e :: es) X.env).map (·.2) = assign e X.env :: (assignEach es X.env).map (·.2) := by rfl) : PGs X (e :: es) (rdGs Γ (g :: gs)) := by
  refine PGs.imp (pgs_cons h1 h2 hs) ?_
  rintro vs σ H Q ⟨ρ, env, ws, e, hE, rl, eq, k⟩
  cases ws with
  | nil => simp [tgAll] at eq
  | cons w ws =>
    obtain ⟨v, r, rfl, rv, rr⟩ := rl
    simp only [tgAll] at eq
    cases e1 : g.run w env with
    | none => rw [e1] at eq; cases eq
    | some env1 =>
      rw [e1] at eq
      refine ⟨v, r, rfl, ρ, env, w, env1, hE, rv, e1, fun σ1 hE1 o1 l1 => ⟨ρ, env1, ws, e, hE1, rr, eq, fun σ2 hE2 o2 l2 => k σ2 hE2 (fun j hj => ?_) (l2.trans l1)⟩⟩
      simp only [List.flatMap_cons, List.mem_append, not_or] at hj
      rw [o2 j hj.2, o1 j hj.1]
theorem tgAll_len : ∀ {gs : List Tg} {ws : List W} {env e : Env}, tgAll gs ws env = some e → ws.length = gs.length
  | [], [], _, _, _ => rfl
  | [], _ :: _, _, _, h => by simp [tgAll] at h
  | _ :: _, [], _, _, h => by simp [tgAll] at h
  | g :: gs, w :: ws, env, e, h => by
    simp only [tgAll] at h
    cases e1 : g.run w env with
    | none => rw [e1] at h; cases h
    | some env1 => rw [e1] at h; simp [tgAll_len h]
theorem g_tup {gs : List Tg} {k : Nat} (hK : X.K = Γ.K) (hc : X.calm = true) (h : PGs X es (rdGs Γ gs)) (hn : (assignEach es X.env).length = gs.length := by rfl) (hst : (assignEach es X.env).findIdx? (·.1) = none := by rfl) : PG X (.Tuple es k pos) (rdG Γ (tgTup gs)) := by
  refine PG.imp (pg_tup hc h hn hst) ?_
  rintro v σ H Q ⟨ρ, env, w, e, hE, r, eq, k⟩
  cases w with
  | tup ws =>
    obtain ⟨a, vs, rfl, ht, rl⟩ := r
    exact ⟨a, vs, rfl, by rw [hK]; exact ht, by rw [rl.len]; exact tgAll_len eq, ρ, env, ws, e, hE, rl, eq, k⟩
  | _ => simp [tgTup] at eq
theorem s_asg {tg : Expr} {g : Tg} (he : PE X e (rd Γ Z α)) (hg : PG X tg (rdG Γ g)) (hs : swapsWithSole [tg] e pos.line X.env = pure false := by rfl) (hw : swappedStores [tg] e X.env = pure none := by rfl)
    (h1 : (assignEach [tg] X.env).map (·.2) = [assign tg X.env] := by rfl) : PS X (.Assign [tg] e pos) (rdS Γ Z (sAsg g α)) := by
  refine PS.imp (ps_asg he hg hs hw h1) ?_
  rintro D σ H ⟨ρ, env, st, hS, hE, h⟩
  refine ⟨ρ, env, st, hS, hE, ?_⟩
  unfold sAsg at h
  cases e : α env st with
  | ok w s =>
    rw [e] at h
    intro v ρ' H' a x r
    cases e2 : g.run w env with
    | none => simp only [e2] at h; exact h.elim
    | some env1 => simp only [e2] at h; exact ⟨ρ', env, w, env1, hE.ext x, r, e2, fun σ' hE' _ _ => h σ' ρ' H' a x hE'⟩
  | exc x s => rw [e] at h; exact fun ρ' H' c d a y r => h σ ρ' H' c d a y (hE.ext y) r
  | stuck => rw [e] at h; exact h

/-! ### what is walked -/
structure Walks (Γ : Gm) (I : It) (J : L2.It) (ρ : Pl) (H : Hp) : Prop where
  go : ∀ (i : Nat) ρ2 H2 s2, RelS Γ ρ2 H2 s2 → Ext0 Γ ρ H ρ2 H2 → I.guard s2 → ∀ w, I.items[i]? = some w → J.go i H2 ∧ ∀ x H3, J.yld i H2 x H3 → RelS Γ ρ2 H3 s2 ∧ Ext Γ ρ2 H2 ρ2 H3 ∧ RepV Γ ρ2 H3 w x
  stop : ∀ ρ2 H2 s2, RelS Γ ρ2 H2 s2 → Ext0 Γ ρ H ρ2 H2 → I.guard s2 → J.stop I.items.length H2
def PostI (Γ : Gm) (Z : WX) (σ : L2.St) (ρ : Pl) (H : Hp) (Q : L2.It → Hp → Prop) : R It → Prop
  | .ok I st' => ∀ J ρ' H', RelS Γ ρ' H' st' → Ext Γ ρ H ρ' H' → Walks Γ I J ρ' H' → Q J H'
  | .exc x st' => ∀ ρ' H' cls d, RelS Γ ρ' H' st' → Ext Γ ρ H ρ' H' → RepX Γ ρ' H' x cls d → Z cls d σ H'
  | .stuck => False
def rdI (Γ : Gm) (Z : WX) (ι : II) : TI := fun σ H Q => ∃ ρ env st, RelS Γ ρ H st ∧ RelE Γ ρ H env σ ∧ PostI Γ Z σ ρ H Q (ι env st)
theorem Post.bindI {β γ : Type} {rep : Pl → Hp → β → γ → Prop} {σ : L2.St} {ρ : Pl} {H : Hp} {Q : L2.It → Hp → Prop} {r : R β} {f : β → Store → R It} (h : PostI Γ Z σ ρ H Q (r.bind f)) :
    Post Γ rep Z σ ρ H (fun v H1 => ∃ w s1 ρ1, r = .ok w s1 ∧ RelS Γ ρ1 H1 s1 ∧ Ext Γ ρ H ρ1 H1 ∧ rep ρ1 H1 w v ∧ PostI Γ Z σ ρ1 H1 Q (f w s1)) r := by
  cases r with
  | ok w s =>
    intro v ρ' H' a b c
    refine ⟨w, s, ρ', rfl, a, b, c, ?_⟩
    have h : PostI Γ Z σ ρ H Q (f w s) := h
    cases e : f w s with
    | ok I s1 => rw [e] at h; exact fun J ρ2 H2 a2 x2 k => h J ρ2 H2 a2 (b.trans x2) k
    | exc x s1 => rw [e] at h; exact fun ρ2 H2 c d a2 x2 k => h ρ2 H2 c d a2 (b.trans x2) k
    | stuck => rw [e] at h; exact h
  | exc e s => exact h
  | stuck => exact h

/-! ### for -/
theorem s_for {tg iter : Expr} {body : List Stmt} {ι : II} {g : Tg} (hp : PassesOwn (model X.prog X.w) X.A X.env X.xe) (hc : X.calm = true) (hi : PI X tg iter (rdI Γ Z ι)) (hg : PG X tg (rdG Γ g)) (hb : PSs X body (rdS Γ Z ς))
    (hs : ∀ x, foldedSetIterable iter X.env x = pure x := by intro _; rfl) : PS X (.For tg iter body [] pos) (rdS Γ Z (sFor ι g ς)) := by
  refine PS.imp (ps_for hp hc hi hg hb hs) ?_
  rintro D σ H ⟨ρ, env, st, hS, hE, h⟩
  refine ⟨ρ, env, st, hS, hE, ?_⟩
  unfold sFor at h
  cases e : ι env st with
  | exc x s => rw [e] at h; exact fun ρ' H' c d a y r => h σ ρ' H' c d a y (hE.ext y) r
  | stuck => rw [e] at h; exact h
  | ok I s =>
    rw [e] at h
    intro J ρ1 H1 hS1 x1 wk
    refine ⟨fun i m σ' H' => m = I.items.length - i ∧ i ≤ I.items.length ∧ ∃ ρ2 env2 s2, RelS Γ ρ2 H' s2 ∧ RelE Γ ρ2 H' env2 σ' ∧ Ext Γ ρ1 H1 ρ2 H' ∧ PostS Γ Z D ρ2 H' (forGo I.guard g ς (I.items.drop i) env2 s2),
      ⟨_, rfl, Nat.zero_le _, ρ1, env, s, hS1, hE.ext x1, .refl, PostS.ext x1 (by simpa using h)⟩, ?_⟩
    rintro i m σ' H' ⟨rfl, hi, ρ2, env2, s2, hS2, hE2, x2, hp2⟩
    by_cases hl : i < I.items.length
    · rw [List.drop_eq_getElem_cons hl] at hp2
      unfold forGo at hp2
      by_cases hG : I.guard s2
      · rw [if_pos hG] at hp2
        obtain ⟨g1, g2⟩ := wk.go i ρ2 H' s2 hS2 x2.zero hG I.items[i] (List.getElem?_eq_getElem hl)
        refine .inr ⟨g1, fun σ3 H3 => i + 1 ≤ I.items.length ∧ ∃ ρ3 env3 s3, RelS Γ ρ3 H3 s3 ∧ RelE Γ ρ3 H3 env3 σ3 ∧ Ext Γ ρ1 H1 ρ3 H3 ∧ PostS Γ Z D ρ3 H3 (forGo I.guard g ς (I.items.drop (i + 1)) env3 s3), ?_, ?_⟩
        · rintro σ3 H3 ⟨l3, q3⟩
          exact ⟨_, by omega, rfl, l3, q3⟩
        · intro x H3 y
          obtain ⟨hS3, x3, r3⟩ := g2 x H3 y
          cases e2 : g.run I.items[i] env2 with
          | none => rw [e2] at hp2; exact hp2.elim
          | some env3 =>
            simp only [e2] at hp2
            refine ⟨ρ2, env2, _, env3, hE2.ext x3, r3, e2, fun σ4 hE4 _ _ => ⟨ρ2, env3, s2, hS3, hE4, ?_⟩⟩
            cases e3 : ς env3 s2 with
            | nx e5 s5 =>
              simp only [e3] at hp2
              exact fun σ' ρ' H' a x b => ⟨hl, ρ', e5, s5, a, b, (x2.trans x3).trans x, PostS.ext (x3.trans x) hp2⟩
            | cnt e5 s5 =>
              simp only [e3] at hp2
              exact fun σ' ρ' H' a x b => ⟨hl, ρ', e5, s5, a, b, (x2.trans x3).trans x, PostS.ext (x3.trans x) hp2⟩
            | brk e5 s5 =>
              simp only [e3] at hp2
              exact fun σ' ρ' H' a x b => hp2 σ' ρ' H' a (x3.trans x) b
            | ret w s5 =>
              simp only [e3] at hp2
              exact fun v ρ' H' a x b => hp2 v ρ' H' a (x3.trans x) b
            | exc z e5 s5 =>
              simp only [e3] at hp2
              exact fun σ' ρ' H' c d a x b q => hp2 σ' ρ' H' c d a (x3.trans x) b q
            | stuck => simp only [e3] at hp2; exact hp2.elim
      · rw [if_neg hG] at hp2; exact hp2.elim
    · have ei : i = I.items.length := by omega
      subst ei
      rw [List.drop_length] at hp2
      unfold forGo at hp2
      by_cases hG : I.guard s2
      · rw [if_pos hG] at hp2
        exact .inl ⟨wk.stop ρ2 H' s2 hS2 x2.zero hG, hp2 σ' ρ2 H' hS2 .refl hE2⟩
      · rw [if_neg hG] at hp2; exact hp2.elim

/-! ### while -/
theorem s_while {body : List Stmt} (hp : PassesOwn (model X.prog X.w) X.A X.env X.xe) (hc : PT X c (rdT Γ Z τ)) (hb : PSs X body (rdS Γ Z ς)) : PS X (.While c body [] pos) (rdS Γ Z (sWhile τ ς)) := by
  refine PS.imp (ps_while hp hc hb) ?_
  rintro D σ H ⟨ρ, env, st, hS, hE, h⟩
  unfold sWhile at h
  split at h
  · rename_i hex
    refine ⟨fun m σ' H' => ∃ ρ2 env2 s2, RelS Γ ρ2 H' s2 ∧ RelE Γ ρ2 H' env2 σ' ∧ PostS Γ Z D ρ2 H' (whileN τ ς m env2 s2), ⟨_, ρ, env, st, hS, hE, h⟩, ?_⟩
    rintro m σ1 H1 ⟨ρ2, env2, s2, hS2, hE2, hp2⟩
    cases m with
    | zero => exact hp2.elim
    | succ m =>
      unfold whileN at hp2
      refine ⟨ρ2, env2, s2, hS2, hE2, ?_⟩
      cases e : τ env2 s2 with
      | exc x s => rw [e] at hp2; exact fun ρ' H' c d a y r => hp2 σ1 ρ' H' c d a y (hE2.ext y) r
      | stuck => rw [e] at hp2; exact hp2
      | ok k s =>
        rw [e] at hp2
        rintro v ρ3 H3 hS3 x3 rfl
        cases k with
        | false => exact hp2 σ1 ρ3 H3 hS3 x3 (hE2.ext x3)
        | true =>
          refine ⟨fun σ4 H4 => ∃ ρ4 env4 s4, RelS Γ ρ4 H4 s4 ∧ RelE Γ ρ4 H4 env4 σ4 ∧ PostS Γ Z D ρ4 H4 (whileN τ ς m env4 s4), fun σ4 H4 q => ⟨m, Nat.lt_succ_self _, q⟩, ρ3, env2, s, hS3, hE2.ext x3, ?_⟩
          cases e3 : ς env2 s with
          | nx e5 s5 =>
            simp only [e3] at hp2
            exact fun σ' ρ' H' a x b => ⟨ρ', e5, s5, a, b, PostS.ext (x3.trans x) hp2⟩
          | cnt e5 s5 =>
            simp only [e3] at hp2
            exact fun σ' ρ' H' a x b => ⟨ρ', e5, s5, a, b, PostS.ext (x3.trans x) hp2⟩
          | brk e5 s5 =>
            simp only [e3] at hp2
            exact fun σ' ρ' H' a x b => hp2 σ' ρ' H' a (x3.trans x) b
          | ret w s5 =>
            simp only [e3] at hp2
            exact fun v ρ' H' a x b => hp2 v ρ' H' a (x3.trans x) b
          | exc z e5 s5 =>
            simp only [e3] at hp2
            exact fun σ' ρ' H' c d a x b q => hp2 σ' ρ' H' c d a (x3.trans x) b q
          | stuck => simp only [e3] at hp2; exact hp2.elim
  · exact h.elim
end
end M

-- Sound3
set_option Elab.async false
set_option autoImplicit false
set_option linter.all false
set_option maxRecDepth 100000
namespace M
open PySem L2
abbrev Z0 : WX := fun _ _ _ _ => False
section
variable {Γ : Gm} {Z : WX} {X : Cx} {a b c e : Expr} {es : List Expr} {s : Stmt} {ss : List Stmt} {pos : Pos} {α β : IE} {τ τ' : IT} {ς ς' : IS}
/-! ### comprehensions -/
theorem wipeE_len : ∀ (vs : List Nat) (env : Env), (wipeE env vs).length = env.length
  | [], _ => rfl
  | i :: is, env => by unfold wipeE; rw [wipeE_len is]; simp
theorem wipeE_get : ∀ (vs : List Nat) (env : Env) (j : Nat) (w : W), (wipeE env vs)[j]? = some (some w) → env[j]? = some (some w) ∧ j ∉ vs
  | [], env, j, w, h => ⟨h, by simp⟩
  | i :: is, env, j, w, h => by
    unfold wipeE at h
    obtain ⟨h1, h2⟩ := wipeE_get is _ j w h
    by_cases hij : i = j
    · subst hij
      by_cases hi : i < env.length
      · rw [List.getElem?_set_self hi] at h1; cases h1
      · rw [List.getElem?_eq_none (by simpa using hi)] at h1; cases h1
    · rw [List.getElem?_set_ne hij] at h1
      exact ⟨h1, by simp [h2, Ne.symm hij]⟩
theorem wipe_in : ∀ (vs : List Nat) (σ : L2.St) (j : Nat), j ∈ vs → j < σ.length → (wipe σ vs)[j]? = some none
  | [], _, _, h, _ => by simp at h
  | i :: is, σ, j, h, hl => by
    show ((wipe σ is).set i none)[j]? = _
    by_cases hij : i = j
    · subst hij
      rw [List.getElem?_set_self (by rw [wipe_length]; exact hl)]
    · rw [List.getElem?_set_ne hij]
      exact wipe_in is σ j (by rcases List.mem_cons.mp h with z | z; exact absurd z.symm hij; exact z) hl
theorem wipe_eq {σ σ' : L2.St} {vs : List Nat} (hl : σ'.length = σ.length) (h : ∀ j, j ∉ vs → σ'[j]? = σ[j]?) : wipe σ' vs = wipe σ vs := by
  apply List.ext_getElem?
  intro j
  by_cases hj : j ∈ vs
  · by_cases hlt : j < σ.length
    · rw [wipe_in vs σ j hj hlt, wipe_in vs σ' j hj (by rw [hl]; exact hlt)]
    · rw [List.getElem?_eq_none (by rw [wipe_length]; omega), List.getElem?_eq_none (by rw [wipe_length]; omega)]
  · rw [wipe_out hj, wipe_out hj, h j hj]
theorem wipe_wipe {σ : L2.St} {vs : List Nat} : wipe (wipe σ vs) vs = wipe σ vs := wipe_eq (wipe_length _ _) fun j hj => wipe_out hj
theorem RelE.wipe {ρ : Pl} {H : Hp} {env : Env} {σ : L2.St} (h : RelE Γ ρ H env σ) (vs : List Nat) : RelE Γ ρ H (wipeE env vs) (wipe σ vs) :=
  ⟨by rw [wipeE_len, wipe_length, h.len], fun i w e => by
    obtain ⟨e1, n⟩ := wipeE_get vs env i w e
    obtain ⟨v, e2, r⟩ := h.at_ i w e1
    exact ⟨v, by rw [wipe_out n]; exact e2, r⟩⟩
theorem rd_lc {ι : II} {g : Tg} {own : List Nat} (hsub : ∀ j, j ∈ g.slots → j ∈ own) {σ : L2.St} {H : Hp} {Q : VK} (h : rdL Γ Z (lLC ι g τ α own) σ H Q) : tLc (rdI Γ Z ι) (rdG Γ g) (rdT Γ Z0 τ) (rd Γ Z0 α) own σ H Q := by
  obtain ⟨ρ, env, st, hS, hE, h⟩ := h
  refine ⟨ρ, env, st, hS, hE, ?_⟩
  unfold lLC at h
  cases e : ι env st with
  | exc x s => rw [e] at h; exact h
  | stuck => rw [e] at h; exact h
  | ok I s =>
    rw [e, bind_ok] at h
    intro J ρ1 H1 hS1 x1 wk D hD
    have hD0 : H D = none := x1.none_back hS hS1 hD
    refine ⟨fun i m H' => m = I.items.length - i ∧ i ≤ I.items.length ∧ ∃ ρ2 s2 acc vacc, ρ2.off = D :: ρ.off ∧ RelS Γ ρ2 H' s2 ∧ RelE Γ ρ2 H' (wipeE env own) (wipe σ own) ∧ Ext0 Γ ρ1 H1 ρ2 H' ∧ Ext Γ ρ H ⟨ρ2.at_, ρ.off, ρ2.fz⟩ H' ∧ H' D = some (.lst vacc) ∧ RepL Γ ρ2 H' acc vacc ∧
      PostL Γ Z σ ρ H Q (lcGo I.guard g τ α (wipeE env own) (I.items.drop i) s2 acc),
      ⟨_, rfl, Nat.zero_le _, ρ1.hold D, s, [], [], by show D :: ρ1.off = _; rw [x1.off], hS1.hold hD, ((hE.ext x1).wipe own).ext0 (Ext0.hold hD), Ext0.hold hD, ?_, upd_same, RepL.nil, by simpa using h⟩, ?_⟩
    · exact ⟨x1.pre, fun a vs q => SqT.upd_new hD (x1.tup a vs q), fun a o q n => let ⟨q1, n1⟩ := x1.frm a o q n; ⟨by rw [upd_ne (ne_of_none q hD0)]; exact q1, n1⟩, rfl⟩
    rintro i m H' ⟨rfl, hi, ρ2, s2, acc, vacc, ho2, hS2, hE2, x2, y2, hd2, ra2, hp2⟩
    have hDo : D ∈ ρ2.off := by rw [ho2]; exact List.mem_cons_self ..
    by_cases hl : i < I.items.length
    · rw [List.drop_eq_getElem_cons hl] at hp2
      unfold lcGo at hp2
      by_cases hG : I.guard s2
      · rw [if_pos hG] at hp2
        obtain ⟨g1, g2⟩ := wk.go i ρ2 H' s2 hS2 x2 hG I.items[i] (List.getElem?_eq_getElem hl)
        refine .inr ⟨g1, fun H3 => i + 1 ≤ I.items.length ∧ ∃ ρ3 s3 acc3 vacc3, ρ3.off = D :: ρ.off ∧ RelS Γ ρ3 H3 s3 ∧ RelE Γ ρ3 H3 (wipeE env own) (wipe σ own) ∧ Ext0 Γ ρ1 H1 ρ3 H3 ∧ Ext Γ ρ H ⟨ρ3.at_, ρ.off, ρ3.fz⟩ H3 ∧ H3 D = some (.lst vacc3) ∧ RepL Γ ρ3 H3 acc3 vacc3 ∧
          PostL Γ Z σ ρ H Q (lcGo I.guard g τ α (wipeE env own) (I.items.drop (i + 1)) s3 acc3), ?_, ?_⟩
        · rintro H3 ⟨l3, q3⟩
          exact ⟨_, by omega, rfl, l3, q3⟩
        · intro x H3 y
          obtain ⟨hS3, x3, r3⟩ := g2 x H3 y
          cases e2 : g.run I.items[i] (wipeE env own) with
          | none => rw [e2] at hp2; exact hp2.elim
          | some env3 =>
            simp only [e2] at hp2
            -- the strong relation to the start, once more on
            have up : ∀ {ρa ρb : Pl} {Ha Hb : Hp}, Ext Γ ρ H ⟨ρa.at_, ρ.off, ρa.fz⟩ Ha → Ext Γ ρa Ha ρb Hb → Ext Γ ρ H ⟨ρb.at_, ρ.off, ρb.fz⟩ Hb := fun {ρa ρb Ha Hb} u v =>
              ⟨fun n a q => v.pre n a (u.pre n a q), fun a vs q => v.tup a vs (u.tup a vs q), fun a o q n => let ⟨q1, n1⟩ := u.frm a o q n; v.frm a o q1 n1, rfl⟩
            refine ⟨ρ2, wipeE env own, _, env3, hE2.ext x3, r3, e2, fun σ4 hE4 o4 l4 => ⟨?_, ?_⟩⟩
            · rw [← wipe_wipe (σ := σ)]
              exact wipe_eq l4 fun j hj => o4 j fun z => hj (hsub j z)
            refine ⟨ρ2, env3, s2, hS3, hE4, ?_⟩
            cases e3 : τ env3 s2 with
            | exc z s5 => simp only [e3] at hp2; exact hp2.elim
            | stuck => simp only [e3] at hp2; exact hp2.elim
            | ok k s5 =>
              simp only [e3] at hp2
              rintro v ρ5 H5 hS5 x5 rfl
              cases k with
              | false =>
                exact ⟨hl, ρ5, s5, acc, vacc, by rw [x5.off, x3.off.symm.symm]; exact ho2, hS5, hE2.ext (x3.trans x5), (x2.trans x3.zero).trans x5.zero, up (up y2 x3) x5,
                  (x5.frm D _ (x3.frm D _ hd2 (.inl (hS2.offs D hDo).2)).1 (x3.frm D _ hd2 (.inl (hS2.offs D hDo).2)).2).1, ra2.ext (x3.trans x5), hp2⟩
              | true =>
                refine ⟨ρ5, env3, s5, hS5, hE4.ext x5, ?_⟩
                simp only at hp2
                cases e5 : α env3 s5 with
                | exc z s6 => simp only [e5] at hp2; exact hp2.elim
                | stuck => simp only [e5] at hp2; exact hp2.elim
                | ok w s6 =>
                  simp only [e5] at hp2
                  by_cases hz : acc.length < lim
                  · rw [if_pos hz] at hp2
                    intro u ρ6 H6 hS6 x6 r6
                    have x36 := (x3.trans x5).trans x6
                    have hd6 : H6 D = some (.lst vacc) := (x36.frm D _ hd2 (.inl (hS2.offs D hDo).2)).1
                    have hDo6 : D ∈ ρ6.off := by rw [x36.off]; exact hDo
                    have mk : Ext0 Γ ρ6 H6 ρ6 (upd H6 D (.lst (vacc ++ [u]))) := Ext0.making hDo6 hd6 trivial
                    refine ⟨vacc, hd6, by rw [ra2.len]; exact hz, hl, ρ6, s6, acc ++ [w], vacc ++ [u], by rw [x36.off]; exact ho2, hS6.making hDo6 hd6 trivial, (hE2.ext x36).ext0 mk, (x2.trans x36.zero).trans mk, ?_, upd_same, (ra2.ext x36).ext0 mk |>.app (RepL.one (r6.ext0 mk)), hp2⟩
                    have y6 := up y2 x36
                    exact ⟨y6.pre, fun a vs q => SqT.upd_mut hd6 trivial (y6.tup a vs q), fun a o q n => let ⟨q1, n1⟩ := y6.frm a o q n; ⟨by rw [upd_ne (ne_of_none q hD0)]; exact q1, n1⟩, rfl⟩
                  · rw [if_neg hz] at hp2; exact hp2.elim
      · rw [if_neg hG] at hp2; exact hp2.elim
    · have ei : i = I.items.length := by omega
      subst ei
      rw [List.drop_length] at hp2
      unfold lcGo at hp2
      by_cases hG : I.guard s2
      · rw [if_pos hG] at hp2
        refine .inl ⟨wk.stop ρ2 H' s2 hS2 x2 hG, hp2 D vacc ⟨ρ2.at_, ρ.off, ρ2.fz⟩ H' ⟨hD0, hd2, (hS2.offs D hDo).2, hS.new_no hD0, hS2.done ho2, hS2.doneAdd ho2 (hS.new_no hD0) hd2 ra2, y2, ?_⟩⟩
        exact RepL.cut (ρ := ρ2) (ρ' := ⟨ρ2.at_, ρ.off, ρ2.fz⟩) (n := ρ2.at_.length) (fun _ _ _ q => q) (done_hs ho2) ra2.bd ra2
      · rw [if_neg hG] at hp2; exact hp2.elim
theorem l_lc {tg iter : Expr} {ifs : List Expr} {scope : Scope} {own : List (Str × Nat)} {ι : II} {g : Tg} (hc : X.calm = true) (hN : X.N.Nodup) (hi : PI X tg iter (rdI Γ Z ι)) (ok : BlkOk X.N X.env.scope scope own)
    (hg : ∀ (s : Shared) (H : Hp) (C : Addr) (cl : List (Str × Addr)) (fp : List Addr), PG (X.blk s H scope (compEnvC scope cl C X.env) fp) tg (rdG Γ g)) (ht : ∀ (s : Shared) (H : Hp) (C : Addr) (cl : List (Str × Addr)) (fp : List Addr), PTs (X.blk s H scope (compEnvC scope cl C X.env) fp) ifs (rdT Γ Z0 τ))
    (he : ∀ (s : Shared) (H : Hp) (C : Addr) (cl : List (Str × Addr)) (fp : List Addr), PE (X.blk s H scope (compEnvC scope cl C X.env) fp) e (rd Γ Z0 α)) (hsub : ∀ j, j ∈ g.slots → j ∈ own.map (·.2) := by decide) (hs : ∀ x, foldedSetIterable iter X.env x = pure x := by intro _; rfl) :
    PE X (.ListComp e [⟨tg, iter, ifs, 0⟩] scope pos) (rdL Γ Z (lLC ι g τ α (own.map (·.2)))) :=
  PE.imp (pe_lc hc hN hi ok hg ht he hs) fun _ _ _ h => rd_lc hsub h
/-- no test, one test, several -/
theorem ts_nil : PTs X [] (rdT Γ Z tYes) := by
  refine ⟨fun pins s σ H Q I h => pts_nil.run pins s σ H Q I ?_⟩
  obtain ⟨ρ, env, st, hS, hE, h⟩ := h
  exact h true ρ H hS .refl rfl
theorem ts_one (h : PT X c (rdT Γ Z τ)) : PTs X [c] (rdT Γ Z τ) := pts_one h
/-- name = [..] on one line -/
theorem s_setLc {i : Nat} {y : Str} {py spos : Pos} {elt tg iter : Expr} {ifs : List Expr} {scope : Scope} {own : List (Str × Nat)} {ι : II} {g : Tg} {wrap : IL → IE} (hw : ∀ (l : IL) σ H Q, rd Γ Z (wrap l) σ H Q → rdL Γ Z l σ H Q) (hc : X.calm = true) (hN : X.N.Nodup) (hy : X.N[i]? = some y) (hyl : X.env.scope.names.lookup y = some .local)
    (hsw : swapsWith (.ListComp elt [⟨tg, iter, ifs, 0⟩] scope pos) (some (.Name y py)) spos.line X.env = pure true) (hi : PI X tg iter (rdI Γ Z ι)) (ok : BlkOk X.N X.env.scope scope own)
    (hg : ∀ (s : Shared) (H : Hp) (C : Addr) (cl : List (Str × Addr)) (fp : List Addr), PG (X.blk s H scope (compEnvC scope cl C X.env) fp) tg (rdG Γ g)) (ht : ∀ (s : Shared) (H : Hp) (C : Addr) (cl : List (Str × Addr)) (fp : List Addr), PTs (X.blk s H scope (compEnvC scope cl C X.env) fp) ifs (rdT Γ Z0 τ))
    (he : ∀ (s : Shared) (H : Hp) (C : Addr) (cl : List (Str × Addr)) (fp : List Addr), PE (X.blk s H scope (compEnvC scope cl C X.env) fp) elt (rd Γ Z0 α)) (hsub : ∀ j, j ∈ g.slots → j ∈ own.map (·.2) := by decide) (hs : ∀ x, foldedSetIterable iter X.env x = pure x := by intro _; rfl) :
    PS X (.Assign [.Name y py] (.ListComp elt [⟨tg, iter, ifs, 0⟩] scope pos) spos) (rdS Γ Z (sSet i (wrap (lLC ι g τ α (own.map (·.2)))))) :=
  PS.imp (ps_setLc hc hN hy hyl hsw hi ok hg ht he hs) fun D σ H h => rd_lc hsub (hw _ _ _ _ (rd_asg h))
theorem w_lst (l : IL) (σ : L2.St) (H : Hp) (Q : VK) (h : rd Γ Z (eLst l) σ H Q) : rdL Γ Z l σ H Q := by
  obtain ⟨ρ, env, st, hS, hE, h⟩ := h
  refine ⟨ρ, env, st, hS, hE, ?_⟩
  unfold eLst at h
  cases e : l env st with
  | ok ws s => rw [e] at h; exact fun a vs ρ' H' f => h (.ref a) ρ' H' f.rel f.x ⟨a, vs, rfl, ⟨f.ob, .inl f.na, f.no⟩, f.rep⟩
  | exc x s => rw [e] at h; exact h
  | stuck => rw [e] at h; exact h
theorem w_new (l : IL) (σ : L2.St) (H : Hp) (Q : VK) (h : rd Γ Z (eNew l) σ H Q) : rdL Γ Z l σ H Q := by
  obtain ⟨ρ, env, st, hS, hE, h⟩ := h
  refine ⟨ρ, env, st, hS, hE, ?_⟩
  unfold eNew at h
  cases e : l env st with
  | ok ws s => rw [e] at h; exact fun a vs ρ' H' f => h (.ref a) (ρ'.add a) H' f.add f.xadd ⟨a, rfl, f.last⟩
  | exc x s => rw [e] at h; exact h
  | stuck => rw [e] at h; exact h

/-! ### calls of the text's defs -/
/-- what a def keeps: it does what f says -/
def spI (Γ : Gm) (n : Nat) (f : Fn) : Sp := fun vs H Q E => vs.length = n ∧ ∃ ρ st args, RelS Γ ρ H st ∧ RepL Γ ρ H args vs ∧ Post Γ (RepV Γ) (fun c d _ H' => E c d H') [] ρ H Q (f args st)
theorem i_call {k : Nat} {f : Addr} {fd : FuncData} {ps : List Str} {fn : Fn} {x : Str} {p : Pos} {αs : List IE} (F : FnOk X.prog X.w X.K X.mg X.base (L2.CX X.prog X.w) k f fd ps (spI Γ ps.length fn)) (hr : Room k X.A) (hm : X.mg x = some (.ref f)) (hk : PySem.W.keepIn X.K (.ref f) = true) (hb : Binds X.K fd ps []) (tk : Takes X Z)
    (ha : PA X (e :: es) (rdA Γ Z (eArgs αs))) (hl : αs.length = ps.length := by rfl) (hg : Gl X x := by rfl) (hdb : (x == ("__debug__" : Str)) = false := by decide) (he : starEach (e :: es) X.env = (false, eval e X.env) :: starEach es X.env := by rfl) (hpl : (backTo pos (starEach es X.env)).any (·.1) = false := by rfl) :
    PE X (.Call (.Name x p) (e :: es) [] pos) (rd Γ Z (eCall fn αs)) := by
  refine PE.imp (pe_callS F hr hg hm hk hb (fun σ => passAt tk σ) ha hdb he hpl) ?_
  rintro σ H Q ⟨ρ, env, st, hS, hE, h⟩
  have len : ∀ (αs : List IE) env st ws s, eArgs αs env st = .ok ws s → ws.length = αs.length := by
    intro αs
    induction αs with
    | nil => intro env st ws s e; cases e; rfl
    | cons a r ih =>
      intro env st ws s e
      unfold eArgs at e
      cases h1 : a env st with
      | ok w s1 =>
        rw [h1] at e
        cases h2 : eArgs r env s1 with
        | ok xs s2 => simp [h2] at e; obtain ⟨rfl, _⟩ := e; simp [ih _ _ _ _ h2]
        | exc x s2 => simp [h2] at e
        | stuck => simp [h2] at e
      | exc x s1 => rw [h1] at e; cases e
      | stuck => rw [h1] at e; cases e
  refine ⟨ρ, env, st, hS, hE, (Post.bind h).mono ?_⟩
  rintro v H1 ⟨w, s1, ρ1, e1, hS1, x1, r1, h1⟩
  refine ⟨by rw [r1.len, len _ _ _ _ _ e1, hl], ρ1, s1, w, hS1, r1, ?_⟩
  cases e2 : fn w s1 with
  | ok u s2 => rw [e2] at h1; exact h1
  | exc x s2 => rw [e2] at h1; exact h1
  | stuck => rw [e2] at h1; exact h1
end
end M

-- Sound4
set_option Elab.async false
set_option autoImplicit false
set_option linter.all false
set_option maxRecDepth 100000
namespace M
open PySem L2
section
variable {Γ : Gm} {Z : WX} {σ : L2.St} {ρ ρ' : Pl} {H H' : Hp} {st st1 : Store} {w : W} {v : V} {Q : VK}
theorem cut_hp (hS : RelS Γ ρ H st) (x : Ext Γ ρ H ρ' H') (m : Nat) (a : Addr) (hm : m < st.length) (h : ρ'.at_[m]? = some a) : ρ.at_[m]? = some a := by
  have hl : m < ρ.at_.length := by rw [hS.len]; exact hm
  have q := x.pre m _ (List.getElem?_eq_getElem hl)
  rw [h] at q
  rw [List.getElem?_eq_getElem hl]
  exact q.symm
theorem cut_hs (hS : RelS Γ ρ H st) (hS' : RelS Γ ρ' H' st1) (x : Ext Γ ρ H ρ' H') (o : OldOk st st1) (a : Addr) (h : a ∉ ρ'.at_ ∨ a ∈ ρ'.fz) (k : a ∉ ρ'.off) : (a ∉ ρ.at_ ∨ a ∈ ρ.fz) ∧ a ∉ ρ.off := by
  refine ⟨?_, by rw [← x.off]; exact k⟩
  by_cases m : a ∈ ρ.at_
  · obtain ⟨n, hn⟩ := List.getElem?_of_mem m
    have hl : n < st.length := by rw [← hS.len]; exact (List.getElem?_eq_some_iff.mp hn).1
    have hn' := x.pre n a hn
    rcases h with h | h
    · exact (h (List.mem_of_getElem? hn')).elim
    · have hl1 : n < st1.length := by have := o.1; omega
      have g := (hS'.fz n st1[n] a (List.getElem?_eq_getElem hl1) hn').1 h
      right
      rcases o.2 n hl with e | ⟨c, d, e, _, e2, _⟩
      · rw [List.getElem?_eq_getElem hl1] at e
        exact (hS.fz n st1[n] a e.symm hn).2 g
      · rw [List.getElem?_eq_getElem hl1] at e
        cases e
        rw [e2] at g; cases g
  · exact .inl m
theorem cut_rel (hS : RelS Γ ρ H st) (hS' : RelS Γ ρ' H' st1) (x : Ext Γ ρ H ρ' H') (o : OldOk st st1) : RelS Γ ρ H' (st1.take st.length) := by
  refine ⟨by rw [hS.len, List.length_take]; have := o.1; omega, hS.nd, fun n c a e1 e2 => ?_, fun a ha => ?_, fun n c a e1 e2 => ?_, hS.fzs⟩
  · have hn : n < st.length := by rw [← hS.len]; exact (List.getElem?_eq_some_iff.mp e2).1
    rw [List.getElem?_take_of_lt hn] at e1
    have q := hS'.at_ n c a e1 (x.pre n a e2)
    refine CellRep.cut (ρ := ρ') (ρ' := ρ) (n := st.length) (fun m b hm => cut_hp hS x m b hm) (cut_hs hS hS' x o) ?_ q
    rcases o.2 n hn with e | ⟨c', d, e, hb, _⟩
    · rw [e1] at e
      have := (hS.at_ n c a e.symm e2).bd
      rwa [hS.len] at this
    · rw [e1] at e; cases e; exact hb
  · have h2 : a ∈ ρ'.off := by rw [x.off]; exact ha
    exact ⟨(hS'.offs a h2).1, (hS.offs a ha).2⟩
  · have hn : n < st.length := by rw [← hS.len]; exact (List.getElem?_eq_some_iff.mp e2).1
    rw [List.getElem?_take_of_lt hn] at e1
    rcases o.2 n hn with e | ⟨c', d, e, _, g, e3, g2⟩
    · rw [e1] at e; exact hS.fz n c a e.symm e2
    · rw [e1] at e; cases e
      rw [hS.fz n d a e3 e2, g, g2]
theorem cut_ext (hS : RelS Γ ρ H st) (hS' : RelS Γ ρ' H' st1) (x : Ext Γ ρ H ρ' H') : Ext Γ ρ H ρ H' := ⟨fun _ _ q => q, x.tup, fun a o h n => ⟨(x.frm a o h n).1, n⟩, rfl⟩
theorem cut_new (hS : RelS Γ ρ H st) (hS' : RelS Γ ρ' H' st1) (x : Ext Γ ρ H ρ' H') {k : Nat} {a : Addr} (hk : ¬ k < st.length) (ha : ρ'.at_[k]? = some a) : a ∉ ρ.at_ ∧ a ∉ ρ.off := by
  refine ⟨fun z => ?_, fun z => (hS'.offs a (by rw [x.off]; exact z)).2 (List.mem_of_getElem? ha)⟩
  obtain ⟨j, hj⟩ := List.getElem?_of_mem z
  have e := nd_ix hS'.nd (x.pre j a hj) ha
  have hl := (List.getElem?_eq_some_iff.mp hj).1
  rw [hS.len] at hl
  omega
theorem frz_rep (hS : RelS Γ ρ H st) (hS' : RelS Γ ρ' H' st1) (x : Ext Γ ρ H ρ' H') (o : OldOk st st1) (r : RepV Γ ρ' H' w v) (hb : (frz st.length st1 w).bd st.length = true) : RepV Γ ρ H' (frz st.length st1 w) v := by
  have go : ∀ u : W, u.bd st.length = true → RepV Γ ρ' H' u v → RepV Γ ρ H' u v := fun u h q => RepV.cut (n := st.length) (fun m b hm => cut_hp hS x m b hm) (cut_hs hS hS' x o) h q
  unfold frz at hb ⊢
  cases w with
  | loc k =>
    simp only at hb ⊢
    by_cases hk : k < st.length
    · simp only [if_pos hk] at hb ⊢
      exact go _ hb r
    · simp only [if_neg hk] at hb ⊢
      obtain ⟨a, rfl, ha⟩ := r
      cases e : st1[k]? with
      | none => rw [e] at hb; simp [W.bd] at hb; omega
      | some c =>
        rw [e] at hb
        obtain ⟨n1, n2⟩ := cut_new hS hS' x hk ha
        cases c with
        | lst ws =>
          simp only at hb ⊢
          obtain ⟨vs, ob, rl⟩ := hS'.at_ k _ a e ha
          exact ⟨a, vs, rfl, ⟨ob, .inl n1, n2⟩, RepL.cut (n := st.length) (fun m b hm => cut_hp hS x m b hm) (cut_hs hS hS' x o) (by simpa [W.bd] using hb) rl⟩
        | dict kvs =>
          simp only at hb ⊢
          obtain ⟨vs, ob, kk, rl⟩ := hS'.at_ k _ a e ha
          exact ⟨a, vs, rfl, ⟨ob, .inl n1, n2⟩, kk, RepL.cut (n := st.length) (fun m b hm => cut_hp hS x m b hm) (cut_hs hS hS' x o) (by simp only [W.bd, Bool.and_eq_true] at hb; exact hb.2) rl⟩
        | dictP kvs =>
          simp only at hb ⊢
          obtain ⟨xs, us, e1, e2, e3, r1, r2⟩ := hS'.at_ k _ a e ha
          simp only [W.bd, Bool.and_eq_true] at hb
          exact ⟨a, xs, us, rfl, ⟨e1, .inl n1, n2⟩, e2, e3, RepL.cut (n := st.length) (fun m b hm => cut_hp hS x m b hm) (cut_hs hS hS' x o) hb.1 r1, RepL.cut (n := st.length) (fun m b hm => cut_hp hS x m b hm) (cut_hs hS hS' x o) hb.2 r2⟩
        | obj c fs =>
          simp only at hb ⊢
          obtain ⟨C, dx, gs, e1, e2, e3, e4⟩ := hS'.at_ k _ a e ha
          exact ⟨a, C, dx, gs, rfl, e1, ⟨e2, .inl n1, n2⟩, by rw [e3, List.map_map]; rfl, RepL.cut (n := st.length) (fun m b hm => cut_hp hS x m b hm) (cut_hs hS hS' x o) (by simpa [W.bd] using hb) e4⟩
        | gone => simp [W.bd] at hb; omega
  | _ => exact go _ hb r
theorem fin_ok {m : Mode} (h : Post Γ (RepV Γ) Z σ ρ H Q (fin m st w st1)) (hS : RelS Γ ρ H st) (hS' : RelS Γ ρ' H' st1) (x : Ext Γ ρ H ρ' H') (r : RepV Γ ρ' H' w v) : Q v H' := by
  cases m with
  | raw => exact h v ρ' H' hS' x r
  | pur =>
    unfold fin at h
    simp only at h
    by_cases hc : (frz st.length st1 w).bd st.length = true ∧ OldOk st st1
    · rw [if_pos hc] at h
      exact h v ρ H' (cut_rel hS hS' x hc.2) (cut_ext hS hS' x) (frz_rep hS hS' x hc.2 r hc.1)
    · rw [if_neg hc] at h; exact h.elim
  | lst =>
    unfold fin at h
    cases w with
    | loc k =>
      simp only at h
      cases e : st1[k]? with
      | none => rw [e] at h; exact h.elim
      | some c =>
        rw [e] at h
        cases c with
        | dict kvs => exact h.elim
        | obj c fs => exact h.elim
        | dictP _ => exact h.elim
        | gone => exact h.elim
        | lst ws =>
          simp only at h
          by_cases hc : st.length ≤ k ∧ bdL st.length ws = true ∧ OldOk st st1
          · rw [if_pos hc] at h
            obtain ⟨c1, c2, c3⟩ := hc
            obtain ⟨a, rfl, ha⟩ := r
            obtain ⟨vs, ob, rl⟩ := hS'.at_ k _ a e ha
            obtain ⟨n1, n2⟩ := cut_new hS hS' x (by omega) ha
            have nfa : a ∉ ρ'.fz := hS'.nfz ha e rfl
            have hs : ∀ b, (b ∉ ρ'.at_ ∨ b ∈ ρ'.fz) → b ∉ ρ'.off → (b ∉ (ρ.add a).at_ ∨ b ∈ (ρ.add a).fz) ∧ b ∉ (ρ.add a).off := fun b q1 q2 => by
              obtain ⟨p1, p2⟩ := cut_hs hS hS' x c3 b q1 q2
              refine ⟨p1.imp (fun p1 => ?_) id, p2⟩
              show b ∉ ρ.at_ ++ [a]
              simp only [List.mem_append, List.mem_singleton, not_or]
              refine ⟨p1, ?_⟩
              rintro rfl
              rcases q1 with q1 | q1
              · exact q1 (List.mem_of_getElem? ha)
              · exact nfa q1
            have hp : ∀ (m : Nat) b, m < st.length → ρ'.at_[m]? = some b → (ρ.add a).at_[m]? = some b := fun m b hm q => by
              show (ρ.at_ ++ [a])[m]? = _
              rw [List.getElem?_append_left (by rw [hS.len]; exact hm)]
              exact cut_hp hS x m b hm q
            have hr := cut_rel hS hS' x c3
            have lt : (st1.take st.length).length = st.length := by rw [List.length_take]; have := c3.1; omega
            refine h (.ref a) (ρ.add a) H' ⟨?_, ?_, fun n c b e1 e2 => ?_, fun b hb => ?_, fun n c b e1 e2 => ?_, fun b hb => List.mem_append.2 (.inl (hS.fzs b hb))⟩ ⟨fun n b q => ?_, x.tup, fun b o q n => ?_, rfl⟩ ⟨a, rfl, ?_⟩
            · show (ρ.at_ ++ [a]).length = _
              simp [hS.len, lt]
            · show (ρ.at_ ++ [a]).Nodup
              rw [List.nodup_append]
              exact ⟨hS.nd, by simp, fun b hb d hd => by simp at hd; subst hd; rintro rfl; exact n1 hb⟩
            · have e2 : (ρ.at_ ++ [a])[n]? = some b := e2
              by_cases hl : n < st.length
              · rw [List.getElem?_append_left (by rw [lt]; exact hl)] at e1
                rw [List.getElem?_append_left (by rw [hS.len]; exact hl)] at e2
                have e1' : st1[n]? = some c := by rw [List.getElem?_take_of_lt hl] at e1; exact e1
                refine CellRep.cut (ρ := ρ') (n := st.length) hp hs ?_ (hS'.at_ n c b e1' (x.pre n b e2))
                have := (hr.at_ n c b e1 e2).bd
                rwa [hS.len] at this
              · have hl2 := (List.getElem?_eq_some_iff.mp e1).1
                have en : n = st.length := by simp [lt] at hl2; omega
                subst en
                rw [List.getElem?_append_right (by rw [lt]; exact Nat.le_refl _), lt] at e1
                rw [List.getElem?_append_right (by rw [hS.len]; exact Nat.le_refl _), hS.len] at e2
                simp at e1 e2
                subst e1; subst e2
                exact ⟨vs, ob, RepL.cut (n := st.length) hp hs c2 rl⟩
            · have h2 : b ∈ ρ'.off := by rw [x.off]; exact hb
              refine ⟨(hS'.offs b h2).1, ?_⟩
              show b ∉ ρ.at_ ++ [a]
              simp only [List.mem_append, List.mem_singleton, not_or]
              exact ⟨(hS.offs b hb).2, fun z => n2 (by rw [← z]; exact hb)⟩
            · show b ∈ ρ.fz ↔ _
              rcases add_at e2 with ⟨hl, e2⟩ | ⟨rfl, rfl⟩
              · rw [List.getElem?_append_left (by rw [lt, ← hS.len]; exact hl)] at e1
                exact hr.fz n c b e1 e2
              · rw [hS.len, List.getElem?_append_right (by rw [lt]; exact Nat.le_refl _), lt] at e1
                simp at e1
                subst e1
                simp [Cell.isGone]
                exact fun z => n1 (hS.fzs _ z)
            · show (ρ.at_ ++ [a])[n]? = _
              rw [List.getElem?_append_left (List.getElem?_eq_some_iff.mp q).1]
              exact q
            · obtain ⟨q1, q2⟩ := x.frm b o q n
              refine ⟨q1, ?_⟩
              by_cases hb : b ∈ ρ.at_
              · exact .inr (n.elim (fun z => (z hb).elim) id)
              · left
                show b ∉ ρ.at_ ++ [a]
                simp only [List.mem_append, List.mem_singleton, not_or]
                refine ⟨hb, ?_⟩
                rintro rfl
                rcases q2 with q2 | q2
                · exact q2 (List.mem_of_getElem? ha)
                · exact nfa q2
            · show (ρ.at_ ++ [a])[st.length]? = _
              rw [List.getElem?_append_right (by rw [hS.len]; exact Nat.le_refl _), hS.len]
              simp
          · rw [if_neg hc] at h; exact h.elim
    | _ => exact h.elim
theorem finX_ok {m : Mode} {x : Ex} {cls : Value} {d : Option Addr} (h : Post Γ (RepV Γ) Z σ ρ H Q (finX m st x st1)) (hS : RelS Γ ρ H st) (hS' : RelS Γ ρ' H' st1) (y : Ext Γ ρ H ρ' H') (r : RepX Γ ρ' H' x cls d) : Z cls d σ H' := by
  have fin : ∀ (c : x.bd st.length = true ∧ OldOk st st1), RepX Γ ρ H' x cls d := fun c => by
    obtain ⟨r1, r2⟩ := r
    refine ⟨r1, ?_⟩
    obtain ⟨c1, c2⟩ := c
    unfold Ex.bd at c1
    cases e : x.d with
    | none => rw [e] at r2; exact r2
    | some fs =>
      rw [e] at r2 c1
      obtain ⟨da, gs, q1, q2, q3, q4⟩ := r2
      exact ⟨da, gs, q1, q2, q3, RepL.cut (n := st.length) (fun m b hm => cut_hp hS y m b hm) (cut_hs hS hS' y c2) c1 q4⟩
  cases m with
  | raw => exact h ρ' H' cls d hS' y r
  | pur =>
    unfold finX at h
    simp only at h
    by_cases hc : x.bd st.length = true ∧ OldOk st st1
    · rw [if_pos hc] at h; exact h ρ H' cls d (cut_rel hS hS' y hc.2) (cut_ext hS hS' y) (fin hc)
    · rw [if_neg hc] at h; exact h.elim
  | lst =>
    unfold finX at h
    simp only at h
    by_cases hc : x.bd st.length = true ∧ OldOk st st1
    · rw [if_pos hc] at h; exact h ρ H' cls d (cut_rel hS hS' y hc.2) (cut_ext hS hS' y) (fin hc)
    · rw [if_neg hc] at h; exact h.elim
theorem RepL.maps {args : List W} {vs : List V} (h : RepL Γ ρ H args vs) (n : Nat) : RelE Γ ρ H (args.map some ++ List.replicate (n - args.length) none) (vs.map some ++ List.replicate (n - vs.length) none) := by
  refine ⟨by simp [h.len], fun i w e => ?_⟩
  by_cases hi : i < args.length
  · rw [List.getElem?_append_left (by simpa using hi), List.getElem?_map] at e
    rw [List.getElem?_append_left (by simpa [h.len] using hi), List.getElem?_map]
    cases e1 : args[i]? with
    | none => rw [e1] at e; cases e
    | some u =>
      rw [e1] at e; cases e
      obtain ⟨v, hv, r⟩ := h.get e1
      exact ⟨v, by rw [hv]; rfl, r⟩
  · rw [List.getElem?_append_right (by simpa using hi)] at e
    rw [List.getElem?_replicate] at e
    split at e <;> cases e
end
section
variable {P : Program} {wo : World} {Γ : Gm} {mg : Str → Option Value} {base : Heap}
/-- THE RULE for a def of the text -/
theorem fn_i {x qual : Str} {st : Stmt} {f : Addr} {fd : FuncData} {N ps : List Str} {k : Nat} {m : Mode} {ς : IS} (F : Fun Γ.K x qual st f fd) (S : FnScope N ps (defScope st))
    (hbody : ∀ (cdv : Value) (A : Around) (outer : List PySem.Env) (s : Shared) (H : Hp) (E : XK), Room k (A.deeper (PyProof.Rows.envOfC qual (defScope st) s.heap.objs.size f cdv)) →
      PSs (cxOf (L2.CX P wo) P wo Γ.K mg base N qual (defScope st) f cdv A outer s H E) (defBody st) (rdS Γ (fun c d _ H' => E c d H') ς)) :
    FnOk P wo Γ.K mg base (L2.CX P wo) (k + 1) f fd ps (spI Γ ps.length (runDef N.length m ς)) := by
  refine F.okX S (fun vs H Q E h => h.1) (fun cdv A outer s H vs Q E hr h => ?_)
  obtain ⟨hl, ρ, st0, args, hS, rl, hp⟩ := h
  refine ⟨_, hbody cdv A outer s H E hr, ρ, _, st0, hS, rl.maps N.length, ?_⟩
  unfold runDef at hp
  cases e : ς (args.map some ++ List.replicate (N.length - args.length) none) st0 with
  | nx env1 st1 =>
    rw [e] at hp
    exact fun σ' ρ' H' a b c => fin_ok hp hS a b (w := .non) (v := .non) rfl
  | ret w st1 =>
    rw [e] at hp
    exact fun v ρ' H' a b c => fin_ok hp hS a b c
  | exc z env1 st1 =>
    rw [e] at hp
    exact fun σ' ρ' H' c d a b q r => finX_ok (Z := fun c d _ H' => E c d H') hp hS a b r
  | brk env1 st1 => rw [e] at hp; exact hp.elim
  | cnt env1 st1 => rw [e] at hp; exact hp.elim
  | stuck => rw [e] at hp; exact hp.elim
end
end M

-- Iters
set_option Elab.async false
set_option autoImplicit false
set_option linter.all false
set_option maxRecDepth 100000
namespace M
open PySem L2
/-! ### enumerate(x), one argument, whatever begins -/
set_option maxHeartbeats 1000000 in
theorem enum1_meets {v : Value} {ob : Obj} {Hh : Heap → Prop} (B : Begins v ob Hh) :
    Meets (Builtin.«enumerate.__new__» ⟨[.type "enumerate", v], []⟩) (fun _ RR sh => Hh sh.heap ∧
      RR (.ok (.ret (.ref (sh.heap.push ob).objs.size))) { sh with heap := (sh.heap.push ob).push { cls := .type "enumerate", data := .fields #[.none, .bool false, .ref sh.heap.objs.size, rawInt 0, .none, .none] } }) :=
  .of_wp fun pr wo Ar RR sh hy => by
    obtain ⟨hp, ge, dr, tk, os⟩ := sh; obtain ⟨hy1, hy2⟩ := hy
    have subE := sub_enumerate
    have go : ∀ {A' : Around} {E : Value → Shared → Prop} {Q : Value → Shared → Prop}, Q (.ref hp.objs.size) ⟨hp.push ob, ge, dr, tk, os⟩ → wpAny (model pr wo) A' (pyIter v) Q E ⟨hp, ge, dr, tk, os⟩ :=
      fun qq => B.iter pr wo _ _ ⟨hp, ge, dr, tk, os⟩ _ hy1 qq
    wp_walk using go
    refine wpAny_stack_any fun sta => wpAny_pure ?_
    split
    · rename_i cc _ _ _ _ _
      cases (cc == Value.type "enumerate")
      all_goals (wp_walk using go; exact ⟨_, rfl, hy2⟩)
    · (wp_walk using go; exact ⟨_, rfl, hy2⟩)
theorem enum1_begins {prog : Program} {w : World} {A : Around} {E : Value → Shared → Prop} {s : Shared} {v : Value} {ob : Obj} {Hh : Heap → Prop} {Q : Value → Shared → Prop} (B : Begins v ob Hh) (h1 : Hh s.heap)
    (h : ∀ h', IsEnum h' (s.heap.objs.size + 1) s.heap.objs.size 0 .none → h'.get? s.heap.objs.size = some ob → (∀ b o, s.heap.get? b = some o → h'.get? b = some o) → Q (.ref (s.heap.objs.size + 1)) { s with heap := h' }) :
    wpAny (model prog w) A (call (.type "enumerate") [v]) Q E s := by
  refine callType_new F.called_enumerate (by decide) (F.typeCall_enumerate_1 _) (F.newCall_enumerate_1 _) (fun x => F.args_object_init_2 x _) F.entry_enumerate_new (enum1_meets B) ⟨h1, ?_⟩
  have sz : (s.heap.push ob).objs.size = s.heap.objs.size + 1 := Heap.size_push ..
  show _ ∧ _
  rw [sz]
  have ie : IsEnum ((s.heap.push ob).push { cls := .type "enumerate", data := .fields #[.none, .bool false, .ref s.heap.objs.size, rawInt 0, .none, .none] }) (s.heap.objs.size + 1) s.heap.objs.size 0 .none := by
    have z := Heap.get?_push_size (s.heap.push ob) (o := { cls := .type "enumerate", data := .fields #[.none, .bool false, .ref s.heap.objs.size, rawInt 0, .none, .none] }) rfl
    rw [sz] at z
    exact z
  exact ⟨⟨_, ie, rfl⟩, h _ ie (Heap.get?_push_of_some _ (Heap.get?_push_size _ B.free)) fun b o x => Heap.get?_push_of_some _ (Heap.get?_push_of_some _ x)⟩

/-! ### a list or a tuple -/
def SqK (K : PySem.W.Frag) (t : Bool) (H : Hp) (a : Addr) (xs : List V) : Prop := if t = true then SqT K H a xs else SqL K H a xs
def IsK (t : Bool) (h : Heap) (a : Addr) (its : Array Value) : Prop := if t = true then h.IsTuple a its else h.IsList a its
def ItK (t : Bool) (h : Heap) (i a : Addr) (n : Nat) : Prop := if t = true then h.IsTupleIter i a n else h.IsListIter i a n
def obK (t : Bool) (a : Addr) : Obj := if t = true then { cls := .type "tuple_iterator", data := .fields #[.ref a, .int 0 0] } else { cls := .type "list_iterator", data := .fields #[.ref a, .int 0 0] }
theorem obK_it {t : Bool} {h : Heap} {i a : Addr} (e : h.get? i = some (obK t a)) : ItK t h i a 0 := by
  cases t <;> exact ⟨_, e, rfl, rfl⟩
theorem begins_K (t : Bool) (a : Addr) (its : Array Value) : Begins (.ref a) (obK t a) (fun h => IsK t h a its) := by
  cases t
  · exact begins_list a its
  · exact begins_tuple a its
theorem draws_K {prog : Program} {w : World} {A : Around} (hh : A.handled = none) (t : Bool) (i a : Addr) (hne : a ≠ i) (its : Array Value) :
    Draws prog w A i [i, a] its.size (fun n v => its[n]? = some v) (fun n h => ItK t h i a n ∧ IsK t h a its) := by
  cases t
  · exact Draws.list hh i a hne its
  · exact Draws.tuple hh i a hne its
theorem ItK.at {t : Bool} {h h' : Heap} {i a : Addr} {n : Nat} (x : ItK t h i a n) (k : ∀ o, h.get? i = some o → h'.get? i = some o) : ItK t h' i a n := by
  cases t
  · exact Heap.IsListIter.at x k
  · exact Heap.IsTupleIter.at x k
theorem ItK.there {t : Bool} {h : Heap} {i a : Addr} {n : Nat} (x : ItK t h i a n) : ∃ o, h.get? i = some o ∧ ∀ v, o.data ≠ .cell v := by
  cases t
  · obtain ⟨o, e, _, d⟩ := x; exact ⟨o, e, fun v q => by rw [d] at q; cases q⟩
  · obtain ⟨o, e, _, d⟩ := x; exact ⟨o, e, fun v q => by rw [d] at q; cases q⟩
section
variable {X : Cx} {pins : List (Addr × Obj)} {σ : L2.St} {H : Hp} {s : Shared} {a : Addr} {xs ys : List V} {t : Bool}
theorem inv_K (I : Inv X pins σ H s) (h : SqK X.K t H a xs) : ∃ its : List Value, Vals xs its ∧ IsK t s.heap a its.toArray ∧ xs.length ≤ sizeLine := by
  cases t
  · obtain ⟨its, r, p, z⟩ := I.list h; exact ⟨its, r, p.isList, z⟩
  · obtain ⟨its, r, p, z⟩ := I.tuple h; exact ⟨its, r, p, z⟩
theorem inv_K_inj (I : Inv X pins σ H s) (h : SqK X.K t H a xs) (h' : SqK X.K t H a ys) : xs = ys := by
  cases t
  · exact I.list_inj h h'
  · exact I.tuple_inj h h'
theorem IsK.lt {h : Heap} {its : Array Value} (x : IsK t h a its) : a < h.objs.size := by
  cases t
  · obtain ⟨o, e, _⟩ := x; exact Heap.lt_size e
  · obtain ⟨o, e, _⟩ := x; exact Heap.lt_size e
end

/-- enumerate over a list or tuple -/
def JEn (K : PySem.W.Frag) (t : Bool) (a : Addr) : L2.It :=
  ⟨fun i H => ∃ (xs : List V) (x : V), SqK K t H a xs ∧ xs[i]? = some x, fun i H v H' => ∃ T x, v = .ref T ∧ H T = none ∧ H' = upd H T (.tup [.int (i : Nat), x]) ∧ ∀ xs, SqK K t H a xs → xs[i]? = some x,
   fun i H => ∃ xs : List V, SqK K t H a xs ∧ xs.length = i⟩
theorem turn_en {P : Program} {w : World} {K : PySem.W.Frag} {elts : List Expr} {kk : Nat} {tp : Pos} (t : Bool) (a e it : Addr) (hne : e ≠ it) (hae : a ≠ e) (hai : a ≠ it) :
    Turn P w K (.Tuple elts kk tp) (JEn K t a) [e, it] e (fun i h => (∃ old, IsEnum h e it ((i : Nat) : Int) old) ∧ ItK t h it a i) where
  mem := by simp
  obj := fun i h st b hb => by
    obtain ⟨⟨old, he⟩, hi⟩ := st
    rcases List.mem_cons.mp hb with rfl | hb
    · exact ⟨_, he, fun v q => nomatch q⟩
    · simp at hb; subst hb; exact hi.there
  keep := fun i h h' st k => let ⟨⟨old, he⟩, hi⟩ := st; ⟨⟨old, k e (by simp) _ he⟩, hi.at fun o q => k it (by simp) o q⟩
  item := by
    intro X hP hw hK hc i pins s σ H E I hf st hg
    subst hP hw hK
    obtain ⟨⟨old, he⟩, hit⟩ := st
    obtain ⟨xs, x, hq, hx⟩ := hg
    obtain ⟨its, rv, p, hz⟩ := inv_K I hq
    have hi : i < its.length := by rw [← rv.length]; exact (List.getElem?_eq_some_iff.mp hx).1
    have W := GoesN.enumFrom (prog := X.prog) (w := X.w) (A := X.A) (elts := elts) (x1 := kk) (pos := tp) 0 (draws_K (A := X.A.in1) (by exact I.ok.hd hc) t it a hai its.toArray) e hne (by simp [hne, Ne.symm hae]) (by simp)
    refine W.goes i s _ E (by simpa using hi) ⟨⟨old, by simpa using he⟩, hit, p⟩ ?_
    rintro v h' tk ⟨T, tk', u, rfl, hT, hu, hTup⟩ ⟨⟨old', he'⟩, hit', p'⟩ hk htk
    obtain ⟨u', hu', ru⟩ := rv.get hx
    have eu : u' = u := by simp at hu; rw [hu'] at hu; exact Option.some.inj hu
    subst eu
    have new : ObjOk X.prog X.w (upd H T (.tup [.int (i : Nat), x])) h' T (.tup [.int (i : Nat), x]) :=
      ⟨by show 2 ≤ sizeLine; decide, [.int (0 + (i : Int)) tk', u'], .cons ⟨tk', by simp⟩ (.cons ru .nil), hTup⟩
    refine ⟨.ref T, _, I.turnedNew (t' := tk) (ch := [e, it]) hk hf hT new, rfl, ⟨T, x, rfl, I.hok.fresh hT, rfl, fun ys hy => by rw [inv_K_inj I hy hq]; exact hx⟩, ⟨⟨old', by simpa using he'⟩, hit'⟩, fun b hb => ?_⟩
    have hbl : b < s.heap.objs.size := by
      rcases List.mem_cons.mp hb with rfl | hb
      · exact Heap.lt_size he
      · simp at hb; subst hb; obtain ⟨o, q, _⟩ := hit.there; exact Heap.lt_size q
    rw [upd_ne (Nat.ne_of_lt (Nat.lt_of_lt_of_le hbl hT))]
    exact (hf b hb).1
  done := by
    intro X hP hw hK hc i pins s σ H E I hf st hg
    subst hP hw hK
    obtain ⟨⟨old, he⟩, hit⟩ := st
    obtain ⟨xs, hq, hx⟩ := hg
    obtain ⟨its, rv, p, hz⟩ := inv_K I hq
    have hi : i = its.toArray.size := by simp [← rv.length, hx]
    subst hi
    have W := GoesN.enumFrom (prog := X.prog) (w := X.w) (A := X.A) (elts := elts) (x1 := kk) (pos := tp) 0 (draws_K (A := X.A.in1) (by exact I.ok.hd hc) t it a hai its.toArray) e hne (by simp [hne, Ne.symm hae]) (by simp)
    exact W.stops s _ E ⟨⟨old, by simpa using he⟩, hit, p⟩ fun h' tk hk htk => I.turnedL (t' := tk) (ch := [e, it]) hk hf
  self := fun A i s Q E st h => let ⟨⟨_, he⟩, _⟩ := st; wpAny_pyIter_enum he h
def iEnK (K : PySem.W.Frag) (ta : TA) : TI := fun σ H R => ta σ H fun vs H1 => ∃ t a xs, vs = [.ref a] ∧ SqK K t H1 a xs ∧ R (JEn K t a) H1
theorem pi_en {X : Cx} {e : Expr} {ta : TA} {p pos tp : Pos} {elts : List Expr} {kk : Nat} (hm : X.mg "enumerate" = none) (ha : PA X [e] ta) (hg : Gl X "enumerate" := by rfl) (hs : starEach [e] X.env = [(false, eval e X.env)] := by rfl) :
    PI X (.Tuple elts kk tp) (.Call (.Name "enumerate" p) [e] [] pos) (iEnK X.K ta) := by
  refine ⟨fun pins s σ H R I h => PyProof.Rows.Call_ (ld_blt I hg hm PyProof.Rows.boot_enumerate (PyProof.Rows.callWith_type1 (thn (ha.run pos pins s σ H _ I h) fun us s1 hh => ?_) hs rfl))⟩
  obtain ⟨vs, H1, I1, r1, t, a, xs, rfl, hq, q⟩ := hh
  obtain ⟨u, rfl, ru⟩ := vals1 r1
  cases ru
  obtain ⟨its, rv, p', hz⟩ := inv_K I1 hq
  have hla := p'.lt
  refine enum1_begins (begins_K t a its.toArray) p' fun h' he hit hk => wpAny_pyIter_enum he ?_
  have I2 : Inv X pins σ H1 { s1 with heap := h' } := I1.kept (t' := s1.toks) hk
  refine ⟨s1.heap.objs.size + 1, [s1.heap.objs.size + 1, s1.heap.objs.size], _, _, H1, rfl, I2, turn_en t a _ _ (Nat.succ_ne_self _) (Nat.ne_of_lt (Nat.lt_succ_of_lt hla)) (Nat.ne_of_lt hla), ⟨⟨_, he⟩, obK_it hit⟩, fun b hb => ?_, q⟩
  have hle : s1.heap.objs.size ≤ b := by
    rcases List.mem_cons.mp hb with rfl | hb
    · exact Nat.le_succ _
    · simp at hb; subst hb; exact Nat.le_refl _
  exact I1.fpOk hle (I1.hok.fresh hle)

/-- zip of two -/
def JZi (K : PySem.W.Frag) (t u : Bool) (a b : Addr) : L2.It :=
  ⟨fun i H => ∃ (xs ys : List V) (x y : V), SqK K t H a xs ∧ SqK K u H b ys ∧ xs[i]? = some x ∧ ys[i]? = some y,
   fun i H v H' => ∃ T x y, v = .ref T ∧ H T = none ∧ H' = upd H T (.tup [x, y]) ∧ (∀ xs, SqK K t H a xs → xs[i]? = some x) ∧ ∀ ys, SqK K u H b ys → ys[i]? = some y,
   fun i H => ∃ xs ys : List V, SqK K t H a xs ∧ SqK K u H b ys ∧ min xs.length ys.length = i⟩
theorem turn_zi {P : Program} {w : World} {K : PySem.W.Frag} {elts : List Expr} {kk : Nat} {tp : Pos} (t u : Bool) (a b z TI TO i1 i2 : Addr) (S : ZipSep2 z TI TO i1 i2 [i1, a] [i2, b]) (h1 : a ≠ i1) (h2 : b ≠ i2) :
    Turn P w K (.Tuple elts kk tp) (JZi K t u a b) [z, TI, TO, i1, i2] z (fun i h => IsZip h z TI TO .none ∧ IsTupOf2 h TI (.ref i1) (.ref i2) ∧ (∃ q1 q2, IsTupOf2 h TO q1 q2) ∧ ItK t h i1 a i ∧ ItK u h i2 b i) where
  mem := by simp
  obj := fun i h st c hc => by
    obtain ⟨hz, hI, ⟨q1, q2, hO⟩, j1, j2⟩ := st
    simp at hc
    rcases hc with rfl | rfl | rfl | rfl | rfl
    · exact ⟨_, hz, fun v q => nomatch q⟩
    · exact ⟨_, hI, fun v q => nomatch q⟩
    · exact ⟨_, hO, fun v q => nomatch q⟩
    · exact j1.there
    · exact j2.there
  keep := fun i h h' st k => by
    obtain ⟨hz, hI, ⟨q1, q2, hO⟩, j1, j2⟩ := st
    exact ⟨k z (by simp) _ hz, k TI (by simp) _ hI, ⟨q1, q2, k TO (by simp) _ hO⟩, j1.at fun o q => k i1 (by simp) o q, j2.at fun o q => k i2 (by simp) o q⟩
  item := by
    intro X hP hw hK hc i pins s σ H E I hf st hg
    subst hP hw hK
    obtain ⟨hz, hI, hO, j1, j2⟩ := st
    obtain ⟨xs, ys, x, y, hq, hq', hx, hy⟩ := hg
    obtain ⟨its, rv, p, _⟩ := inv_K I hq
    obtain ⟨its', rv', p', _⟩ := inv_K I hq'
    have l1 : i < its.length := by rw [← rv.length]; exact (List.getElem?_eq_some_iff.mp hx).1
    have l2 : i < its'.length := by rw [← rv'.length]; exact (List.getElem?_eq_some_iff.mp hy).1
    have W := GoesN.zip2 (prog := X.prog) (w := X.w) (A := X.A) (elts := elts) (x1 := kk) (pos := tp) S (draws_K (A := X.A.in1) (by exact I.ok.hd hc) t i1 a h1 its.toArray) (draws_K (A := X.A.in1) (by exact I.ok.hd hc) u i2 b h2 its'.toArray)
    refine W.goes i s _ E (by simp; omega) ⟨hz, hI, hO, ⟨j1, p⟩, ⟨j2, p'⟩⟩ ?_
    rintro v h' tk ⟨T, v1, v2, rfl, hT, e1, e2, hTup⟩ ⟨hz', hI', hO', ⟨j1', _⟩, ⟨j2', _⟩⟩ hk htk
    obtain ⟨u1, hu1, ru1⟩ := rv.get hx
    obtain ⟨u2, hu2, ru2⟩ := rv'.get hy
    have eu1 : u1 = v1 := by simp at e1; rw [hu1] at e1; exact Option.some.inj e1
    have eu2 : u2 = v2 := by simp at e2; rw [hu2] at e2; exact Option.some.inj e2
    subst eu1; subst eu2
    have new : ObjOk X.prog X.w (upd H T (.tup [x, y])) h' T (.tup [x, y]) := ⟨by show 2 ≤ sizeLine; decide, [u1, u2], .cons ru1 (.cons ru2 .nil), hTup⟩
    have sub : ∀ c, c ∈ [z, TO, i1, i2] → c ∈ [z, TI, TO, i1, i2] := fun c hc => by simp at hc ⊢; rcases hc with h | h | h | h <;> simp [h]
    refine ⟨.ref T, _, I.turnedNew (t' := tk) (ch := [z, TO, i1, i2]) hk (fun c hc => hf c (sub c hc)) hT new, rfl, ⟨T, x, y, rfl, I.hok.fresh hT, rfl, fun l hl => by rw [inv_K_inj I hl hq]; exact hx, fun l hl => by rw [inv_K_inj I hl hq']; exact hy⟩, ⟨hz', hI', hO', j1', j2'⟩, fun c hcc => ?_⟩
    have hbl : c < s.heap.objs.size := by
      have hcc' := hcc
      simp at hcc'
      rcases hcc' with rfl | rfl | rfl | rfl | rfl
      · exact Heap.lt_size hz
      · exact Heap.lt_size hI
      · obtain ⟨_, _, e⟩ := hO; exact Heap.lt_size e
      · obtain ⟨o, e, _⟩ := j1.there; exact Heap.lt_size e
      · obtain ⟨o, e, _⟩ := j2.there; exact Heap.lt_size e
    rw [upd_ne (Nat.ne_of_lt (Nat.lt_of_lt_of_le hbl hT))]
    exact (hf c hcc).1
  done := by
    intro X hP hw hK hc i pins s σ H E I hf st hg
    subst hP hw hK
    obtain ⟨hz, hI, hO, j1, j2⟩ := st
    obtain ⟨xs, ys, hq, hq', hx⟩ := hg
    obtain ⟨its, rv, p, _⟩ := inv_K I hq
    obtain ⟨its', rv', p', _⟩ := inv_K I hq'
    have hi : i = min its.toArray.size its'.toArray.size := by simp [← rv.length, ← rv'.length, hx]
    subst hi
    have W := GoesN.zip2 (prog := X.prog) (w := X.w) (A := X.A) (elts := elts) (x1 := kk) (pos := tp) S (draws_K (A := X.A.in1) (by exact I.ok.hd hc) t i1 a h1 its.toArray) (draws_K (A := X.A.in1) (by exact I.ok.hd hc) u i2 b h2 its'.toArray)
    have sub : ∀ c, c ∈ [z, TO, i1, i2] → c ∈ [z, TI, TO, i1, i2] := fun c hc => by simp at hc ⊢; rcases hc with h | h | h | h <;> simp [h]
    exact W.stops s _ E ⟨hz, hI, hO, ⟨j1, p⟩, ⟨j2, p'⟩⟩ fun h' tk hk htk => I.turnedL (t' := tk) (ch := [z, TO, i1, i2]) hk fun c hc => hf c (sub c hc)
  self := fun A i s Q E st h => wpAny_pyIter_zip st.1 h
def iZiK (K : PySem.W.Frag) (ta : TA) : TI := fun σ H R => ta σ H fun vs H1 => ∃ t u a b xs ys, vs = [.ref a, .ref b] ∧ SqK K t H1 a xs ∧ SqK K u H1 b ys ∧ R (JZi K t u a b) H1
theorem pi_zi {X : Cx} {e e2 : Expr} {ta : TA} {p pos tp : Pos} {elts : List Expr} {kk : Nat} (hm : X.mg "zip" = none) (ha : PA X [e, e2] ta) (hg : Gl X "zip" := by rfl) (hs : starEach [e, e2] X.env = (false, eval e X.env) :: starEach [e2] X.env := by rfl) (hpl : (backTo pos (starEach [e2] X.env)).any (·.1) = false := by rfl) :
    PI X (.Tuple elts kk tp) (.Call (.Name "zip" p) [e, e2] [] pos) (iZiK X.K ta) := by
  refine ⟨fun pins s σ H R I h => PyProof.Rows.Call_ (ld_blt I hg hm PyProof.Rows.boot_zip (PyProof.Rows.callWith_type1 (thn (ha.run pos pins s σ H _ I h) fun us s1 hh => ?_) hs hpl))⟩
  obtain ⟨vs, H1, I1, r1, t, u, a, b, xs, ys, rfl, hq, hq', q⟩ := hh
  obtain ⟨u1, u2, rfl, ru1, ru2⟩ := vals2 r1
  cases ru1; cases ru2
  obtain ⟨its, rv, p1, _⟩ := inv_K I1 hq
  obtain ⟨its', rv', p2, _⟩ := inv_K I1 hq'
  have la := p1.lt
  have lb := p2.lt
  refine zip_begins2 (begins_K t a its.toArray) (begins_K u b its'.toArray) p1 p2 fun h' hz hI hO g1 g2 hsz hk => wpAny_pyIter_zip hz ?_
  have I2 : Inv X pins σ H1 { s1 with heap := h' } := I1.kept (t' := s1.toks) hk
  refine ⟨s1.heap.objs.size + 4, [s1.heap.objs.size + 4, s1.heap.objs.size + 2, s1.heap.objs.size + 3, s1.heap.objs.size, s1.heap.objs.size + 1], _, _, H1, rfl, I2,
    turn_zi t u a b _ _ _ _ _ (zip_sep2 (fp1 := [a]) (fp2 := [b]) (fun c hc => by simp at hc; subst hc; exact la) (fun c hc => by simp at hc; subst hc; exact lb)) (Nat.ne_of_lt la) (Nat.ne_of_lt (Nat.lt_succ_of_lt lb)), ⟨hz, hI, ⟨_, _, hO⟩, obK_it g1, obK_it g2⟩, fun c hc => ?_, q⟩
  have hle : s1.heap.objs.size ≤ c := by
    simp at hc
    rcases hc with rfl | rfl | rfl | rfl | rfl
    · exact Nat.le_add_right _ _
    · exact Nat.le_add_right _ _
    · exact Nat.le_add_right _ _
    · exact Nat.le_refl _
    · exact Nat.le_add_right _ _
  exact I1.fpOk hle (I1.hok.fresh hle)
end M

-- Sound5
set_option Elab.async false
set_option autoImplicit false
set_option linter.all false
set_option maxRecDepth 100000
namespace M
open PySem L2
section
variable {Γ : Gm} {Z : WX} {X : Cx} {a b c e l tg : Expr} {es : List Expr} {pos p tp : Pos} {α β δ : IE}
def JSq (K : PySem.W.Frag) (t : Bool) (a : Addr) : L2.It := if t = true then Itt K a else Itl K a
def iSqK (K : PySem.W.Frag) (tl : TE) : TI := fun σ H R => tl σ H fun x H1 => ∃ t a xs, x = .ref a ∧ SqK K t H1 a xs ∧ R (JSq K t a) H1
theorem pi_sq {tl : TE} (hl : PE X l tl) : PI X tg l (iSqK X.K tl) := by
  refine ⟨fun pins s σ H R I h => thn (hl.run pins s σ H _ I h) fun v s1 hh => ?_⟩
  obtain ⟨x, H1, I1, r1, t, a, xs, rfl, hq, q⟩ := hh
  cases r1
  have fp : ∀ b ∈ [s1.heap.objs.size], FpOk X pins H1 b := fun b hb => by
    simp at hb; subst hb
    exact I1.fpOk (Nat.le_refl _) (I1.hok.fresh (Nat.le_refl _))
  cases t
  · obtain ⟨its, rv, pl, _⟩ := I1.list hq
    exact wpAny_pyIter_list pl.isList ⟨s1.heap.objs.size, [s1.heap.objs.size], _, _, H1, rfl, I1.kept (t' := s1.toks) fun b o e => Heap.get?_push_of_some _ e, turn_list a _, ⟨_, Heap.get?_push_size _ rfl, rfl, rfl⟩, fp, q⟩
  · obtain ⟨its, rv, pl, _⟩ := I1.tuple hq
    exact wpAny_pyIter_tuple pl ⟨s1.heap.objs.size, [s1.heap.objs.size], _, _, H1, rfl, I1.kept (t' := s1.toks) fun b o e => Heap.get?_push_of_some _ e, turn_tuple a _, ⟨_, Heap.get?_push_size _ rfl, rfl, rfl⟩, fp, q⟩

/-- a source that is walked stays readable -/
def Src (Γ : Gm) (I : It) (t : Bool) (a : Addr) (ρ : Pl) (H : Hp) : Prop := ∀ ρ2 H2 s2, RelS Γ ρ2 H2 s2 → Ext0 Γ ρ H ρ2 H2 → I.guard s2 → ∃ xs, SqK Γ.K t H2 a xs ∧ RepL Γ ρ2 H2 I.items xs
theorem src {ρ : Pl} {H : Hp} {st s : Store} {x : W} {v : V} {I : It} (hS : RelS Γ ρ H st) (r : RepV Γ ρ H x v) (e : itSeq x st = .ok I s) : s = st ∧ I.guard st ∧ ∃ t a, v = .ref a ∧ Src Γ I t a ρ H := by
  unfold itSeq at e
  cases x with
  | tup ws =>
    obtain ⟨a, vs, rfl, ht, rl⟩ := r
    simp only [R.ok.injEq] at e
    obtain ⟨rfl, rfl⟩ := e
    exact ⟨rfl, trivial, true, a, rfl, fun ρ2 H2 s2 h2 x2 _ => ⟨vs, x2.tup a vs ht, rl.ext0 x2⟩⟩
  | lst ws =>
    obtain ⟨a, vs, rfl, ht, rl⟩ := r
    simp only [R.ok.injEq] at e
    obtain ⟨rfl, rfl⟩ := e
    exact ⟨rfl, trivial, false, a, rfl, fun ρ2 H2 s2 h2 x2 _ => ⟨vs, LstAt.seq (ρ := ρ2) (ht.ext0 x2), rl.ext0 x2⟩⟩
  | ro ws =>
    obtain ⟨a, vs, rfl, ht, rl⟩ := r
    simp only [R.ok.injEq] at e
    obtain ⟨rfl, rfl⟩ := e
    exact ⟨rfl, trivial, false, a, rfl, fun ρ2 H2 s2 h2 x2 _ => ⟨vs, (ht.ext0 x2).seq, rl.ext0 x2⟩⟩
  | loc n =>
    obtain ⟨a, rfl, ha⟩ := r
    simp only at e
    cases e1 : st[n]? with
    | none => rw [e1] at e; cases e
    | some cl =>
      rw [e1] at e
      cases cl with
      | lst ws =>
        simp only [R.ok.injEq] at e
        obtain ⟨rfl, rfl⟩ := e
        refine ⟨rfl, e1, false, a, rfl, fun ρ2 H2 s2 h2 x2 g => ?_⟩
        obtain ⟨vs, ob, rl⟩ := h2.at_ n _ a g (x2.pre n a ha)
        exact ⟨vs, .of ob, rl⟩
      | dict kvs => cases e
      | obj c fs => cases e
      | dictP _ => cases e
      | gone => cases e
  | _ => cases e
theorem walks_sq {I : It} {t : Bool} {a : Addr} {ρ : Pl} {H : Hp} (h : Src Γ I t a ρ H) : Walks Γ I (JSq Γ.K t a) ρ H := by
  refine ⟨fun i ρ2 H2 s2 h2 x2 g w hw => ?_, fun ρ2 H2 s2 h2 x2 g => ?_⟩
  · obtain ⟨xs, hq, rl⟩ := h ρ2 H2 s2 h2 x2 g
    obtain ⟨v, hv, rv⟩ := rl.get hw
    cases t
    · refine ⟨⟨xs, v, hq, hv⟩, ?_⟩
      rintro x H3 ⟨rfl, k⟩
      have := k xs hq
      rw [hv] at this; cases this
      exact ⟨h2, .refl, rv⟩
    · refine ⟨⟨xs, v, hq, hv⟩, ?_⟩
      rintro x H3 ⟨rfl, k⟩
      have := k xs hq
      rw [hv] at this; cases this
      exact ⟨h2, .refl, rv⟩
  · obtain ⟨xs, hq, rl⟩ := h ρ2 H2 s2 h2 x2 g
    cases t
    · exact ⟨xs, hq, Nat.le_of_eq rl.len⟩
    · exact ⟨xs, hq, Nat.le_of_eq rl.len⟩
theorem w_seq (hK : X.K = Γ.K) (hl : PE X l (rd Γ Z α)) : PI X tg l (rdI Γ Z (iSeq α)) := by
  have h := pi_sq (tg := tg) hl
  refine ⟨fun pins s σ H R I q => h.run pins s σ H R I ?_⟩
  obtain ⟨ρ, env, st, hS, hE, q⟩ := q
  refine ⟨ρ, env, st, hS, hE, (Post.bindI q).mono ?_⟩
  rintro v H1 ⟨w, s1, ρ1, e1, hS1, x1, r1, h1⟩
  cases e2 : itSeq w s1 with
  | exc x s => unfold itSeq at e2; split at e2 <;> (try split at e2) <;> cases e2
  | stuck => rw [e2] at h1; exact h1.elim
  | ok It s2 =>
    rw [e2] at h1
    obtain ⟨rfl, g, t, a, rfl, sr⟩ := src hS1 r1 e2
    obtain ⟨xs, hq, rl⟩ := sr ρ1 H1 s2 hS1 Ext.refl.zero g
    exact ⟨t, a, xs, rfl, by rw [hK]; exact hq, by rw [hK]; exact h1 _ ρ1 H1 hS1 .refl (walks_sq sr)⟩
theorem enumFrom_get : ∀ (ws : List W) (k i : Nat), (enumFrom k ws)[i]? = (ws[i]?).map fun w => .tup [.int ((k + i : Nat) : Int), w]
  | [], k, i => by simp [enumFrom]
  | w :: ws, k, 0 => by simp [enumFrom]
  | w :: ws, k, i + 1 => by
    unfold enumFrom
    rw [List.getElem?_cons_succ, List.getElem?_cons_succ, enumFrom_get ws (k + 1) i]
    congr 1
    funext w
    have : k + 1 + i = k + (i + 1) := by omega
    rw [this]
theorem enumFrom_len : ∀ (ws : List W) (k : Nat), (enumFrom k ws).length = ws.length
  | [], _ => rfl
  | _ :: ws, k => by simp [enumFrom, enumFrom_len ws]
theorem w_enum {elts : List Expr} {kk : Nat} (hK : X.K = Γ.K) (hm : X.mg "enumerate" = none) (ha : PA X [e] (rdA Γ Z (eArgs [α]))) (hg : Gl X "enumerate" := by rfl) (hs : starEach [e] X.env = [(false, eval e X.env)] := by rfl) :
    PI X (.Tuple elts kk tp) (.Call (.Name "enumerate" p) [e] [] pos) (rdI Γ Z (iEnum α)) := by
  have h := pi_en (elts := elts) (kk := kk) (tp := tp) (p := p) (pos := pos) hm ha hg hs
  refine ⟨fun pins s σ H R I q => h.run pins s σ H R I ?_⟩
  obtain ⟨ρ, env, st, hS, hE, q⟩ := q
  refine ⟨ρ, env, st, hS, hE, ?_⟩
  unfold iEnum at q
  show Post Γ (RepL Γ) Z σ ρ H _ ((α env st).bind fun x s1 => .ok [x] s1)
  cases e0 : α env st with
  | exc x s => rw [e0] at q; exact q
  | stuck => rw [e0] at q; exact q
  | ok w s1 =>
    rw [e0] at q
    rintro vs ρ1 H1 hS1 x1 ⟨v, r, rfl, r1, rfl⟩
    cases e2 : itSeq w s1 with
    | exc x s => unfold itSeq at e2; split at e2 <;> (try split at e2) <;> cases e2
    | stuck => simp only [bind_ok, e2] at q; exact q.elim
    | ok It s2 =>
      simp only [bind_ok, e2] at q
      obtain ⟨rfl, g, t, a, rfl, sr⟩ := src hS1 r1 e2
      obtain ⟨xs, hq, rl⟩ := sr ρ1 H1 s2 hS1 Ext.refl.zero g
      refine ⟨t, a, xs, rfl, by rw [hK]; exact hq, q _ ρ1 H1 hS1 x1 ⟨fun i ρ2 H2 s3 h2 x2 g2 w2 hw => ?_, fun ρ2 H2 s3 h2 x2 g2 => ?_⟩⟩
      · obtain ⟨ys, hq2, rl2⟩ := sr ρ2 H2 s3 h2 x2 g2
        rw [enumFrom_get] at hw
        cases e3 : It.items[i]? with
        | none => rw [e3] at hw; cases hw
        | some w3 =>
          rw [e3] at hw
          obtain ⟨v3, hv3, rv3⟩ := rl2.get e3
          refine ⟨⟨ys, v3, by rw [hK]; exact hq2, hv3⟩, ?_⟩
          rintro x H3 ⟨T, y, rfl, hT, rfl, k⟩
          have := k ys (by rw [hK]; exact hq2)
          rw [hv3] at this; cases this
          cases hw
          exact ⟨h2.free hT, .free hT, T, _, rfl, .of upd_same, .cons (by simp [RepV]) (.one (rv3.ext (.free hT)))⟩
      · obtain ⟨ys, hq2, rl2⟩ := sr ρ2 H2 s3 h2 x2 g2
        exact ⟨ys, by rw [hK]; exact hq2, by rw [rl2.len, enumFrom_len]⟩
theorem zipW_get : ∀ (as bs : List W) (i : Nat) (w : W), (zipW as bs)[i]? = some w → ∃ a b, as[i]? = some a ∧ bs[i]? = some b ∧ w = .tup [a, b]
  | [], bs, i, w, h => by simp [zipW] at h
  | a :: as, [], i, w, h => by simp [zipW] at h
  | a :: as, b :: bs, 0, w, h => by simp [zipW] at h; exact ⟨a, b, rfl, rfl, h.symm⟩
  | a :: as, b :: bs, i + 1, w, h => by simp [zipW] at h; simpa using zipW_get as bs i w h
theorem zipW_len : ∀ (as bs : List W), (zipW as bs).length = min as.length bs.length
  | [], bs => by simp [zipW]
  | a :: as, [] => by simp [zipW]
  | a :: as, b :: bs => by
    simp only [zipW, List.length_cons, zipW_len as bs]
    omega
theorem w_zip {elts : List Expr} {kk : Nat} (hK : X.K = Γ.K) (hm : X.mg "zip" = none) (ha : PA X [a, b] (rdA Γ Z (eArgs [α, β]))) (hg : Gl X "zip" := by rfl) (hs : starEach [a, b] X.env = (false, eval a X.env) :: starEach [b] X.env := by rfl) (hpl : (backTo pos (starEach [b] X.env)).any (·.1) = false := by rfl) :
    PI X (.Tuple elts kk tp) (.Call (.Name "zip" p) [a, b] [] pos) (rdI Γ Z (iZip α β)) := by
  have h := pi_zi (elts := elts) (kk := kk) (tp := tp) (p := p) (pos := pos) hm ha hg hs hpl
  refine ⟨fun pins s σ H R I q => h.run pins s σ H R I ?_⟩
  obtain ⟨ρ, env, st, hS, hE, q⟩ := q
  refine ⟨ρ, env, st, hS, hE, ?_⟩
  unfold iZip at q
  show Post Γ (RepL Γ) Z σ ρ H _ ((α env st).bind fun x s1 => ((β env s1).bind fun y s2 => .ok [y] s2).bind fun xs s2 => .ok (x :: xs) s2)
  cases e0 : α env st with
  | exc x s => rw [e0] at q; exact q
  | stuck => rw [e0] at q; exact q
  | ok w0 s0 =>
    rw [e0] at q
    simp only [bind_ok] at q ⊢
    cases e0' : β env s0 with
    | exc x s => rw [e0'] at q; exact q
    | stuck => rw [e0'] at q; exact q
    | ok w1 s1 =>
      rw [e0'] at q
      simp only [bind_ok] at q ⊢
      rintro vs ρ1 H1 hS1 x1 ⟨v, _, rfl, r1, v', _, rfl, r2, rfl⟩
      cases e2 : itSeq w0 s1 with
      | exc x s => unfold itSeq at e2; split at e2 <;> (try split at e2) <;> cases e2
      | stuck => simp only [bind_ok, e2] at q; exact q.elim
      | ok It s2 =>
        obtain ⟨rfl, g, t, a, rfl, sr⟩ := src hS1 r1 e2
        cases e3 : itSeq w1 s2 with
        | exc x s => unfold itSeq at e3; split at e3 <;> (try split at e3) <;> cases e3
        | stuck => simp only [bind_ok, e2, e3] at q; exact q.elim
        | ok It' s3 =>
          obtain ⟨rfl, g', t', a', rfl, sr'⟩ := src hS1 r2 e3
          simp only [e2, e3, bind_ok] at q
          obtain ⟨xs, hq, rl⟩ := sr ρ1 H1 s3 hS1 Ext.refl.zero g
          obtain ⟨xs', hq', rl'⟩ := sr' ρ1 H1 s3 hS1 Ext.refl.zero g'
          refine ⟨t, t', a, a', xs, xs', rfl, by rw [hK]; exact hq, by rw [hK]; exact hq', q _ ρ1 H1 hS1 x1 ⟨fun i ρ2 H2 s4 h2 x2 g2 w2 hw => ?_, fun ρ2 H2 s4 h2 x2 g2 => ?_⟩⟩
          · obtain ⟨ys, hy, rly⟩ := sr ρ2 H2 s4 h2 x2 g2.1
            obtain ⟨ys', hy', rly'⟩ := sr' ρ2 H2 s4 h2 x2 g2.2
            obtain ⟨wa, wb, ha1, hb1, rfl⟩ := zipW_get _ _ _ _ hw
            obtain ⟨va, hva, rva⟩ := rly.get ha1
            obtain ⟨vb, hvb, rvb⟩ := rly'.get hb1
            refine ⟨⟨ys, ys', va, vb, by rw [hK]; exact hy, by rw [hK]; exact hy', hva, hvb⟩, ?_⟩
            rintro x H3 ⟨T, y1, y2, rfl, hT, rfl, k1, k2⟩
            have := k1 ys (by rw [hK]; exact hy)
            rw [hva] at this; cases this
            have := k2 ys' (by rw [hK]; exact hy')
            rw [hvb] at this; cases this
            exact ⟨h2.free hT, .free hT, T, _, rfl, .of upd_same, .cons (rva.ext (.free hT)) (.one (rvb.ext (.free hT)))⟩
          · obtain ⟨ys, hy, rly⟩ := sr ρ2 H2 s4 h2 x2 g2.1
            obtain ⟨ys', hy', rly'⟩ := sr' ρ2 H2 s4 h2 x2 g2.2
            exact ⟨ys, ys', by rw [hK]; exact hy, by rw [hK]; exact hy', by rw [rly.len, rly'.len, zipW_len]⟩
theorem upTo_get (lo : Int) (n i : Nat) (w : W) (h : (upTo lo n)[i]? = some w) : i < n ∧ w = .int (lo + (i : Int)) := by
  unfold upTo at h
  rw [List.getElem?_map] at h
  cases e : (List.range n)[i]? with
  | none => rw [e] at h; cases h
  | some k =>
    rw [e] at h
    have := List.getElem?_eq_some_iff.mp e
    obtain ⟨hl, hk⟩ := this
    simp at hl hk
    subst hk
    cases h
    exact ⟨hl, rfl⟩
theorem walks_rng (lo : Int) (n : Nat) (ρ : Pl) (H : Hp) : Walks Γ ⟨upTo lo n, fun _ => True⟩ (Itr lo n) ρ H :=
  ⟨fun i ρ2 H2 s2 h2 x2 g w hw => by
    obtain ⟨hi, rfl⟩ := upTo_get lo n i w hw
    exact ⟨hi, fun x H3 ⟨e1, e2⟩ => by subst e1; subst e2; exact ⟨h2, .refl, rfl⟩⟩, fun ρ2 H2 s2 h2 x2 g => by simp [Itr, upTo]⟩
theorem w_range1 (hm : X.mg "range" = none) (ha : PA X [e] (rdA Γ Z (eArgs [α]))) (hg : Gl X "range" := by rfl) (hs : starEach [e] X.env = [(false, eval e X.env)] := by rfl) : PI X tg (.Call (.Name "range" p) [e] [] pos) (rdI Γ Z (iRange [α])) := by
  have h := pi_range1 (tg := tg) (p := p) (pos := pos) hg hm ha hs
  refine ⟨fun pins s σ H R I q => h.run pins s σ H R I ?_⟩
  obtain ⟨ρ, env, st, hS, hE, q⟩ := q
  refine ⟨ρ, env, st, hS, hE, (Post.bindI q).mono ?_⟩
  rintro v H1 ⟨ws, s1, ρ1, e1, hS1, x1, r1, h1⟩
  unfold itRange at h1
  split at h1
  · rename_i j
    obtain ⟨v, _, rfl, rfl, rfl⟩ := r1
    split at h1
    · rename_i hc
      exact ⟨j, rfl, hc.1, hc.2, h1 _ ρ1 H1 hS1 .refl (walks_rng 0 _ _ _)⟩
    · exact h1.elim
  · exfalso
    have len : ∀ env st ws s, eArgs [α] env st = .ok ws s → ws.length = 1 := by
      intro env st ws s e
      simp only [eArgs] at e
      cases h1 : α env st with
      | ok w s1 => rw [h1] at e; simp at e; obtain ⟨rfl, _⟩ := e; rfl
      | exc x s1 => rw [h1] at e; cases e
      | stuck => rw [h1] at e; cases e
    have := len _ _ _ _ e1
    simp at this
  · exact h1.elim
theorem w_range2 (hm : X.mg "range" = none) (ha : PA X [a, b] (rdA Γ Z (eArgs [α, β]))) (hg : Gl X "range" := by rfl) (hs : starEach [a, b] X.env = [(false, eval a X.env), (false, eval b X.env)] := by rfl) (hs2 : starEach [b] X.env = [(false, eval b X.env)] := by rfl) : PI X tg (.Call (.Name "range" p) [a, b] [] pos) (rdI Γ Z (iRange [α, β])) := by
  have h := pi_range2 (tg := tg) (p := p) (pos := pos) hg hm ha hs hs2
  refine ⟨fun pins s σ H R I q => h.run pins s σ H R I ?_⟩
  obtain ⟨ρ, env, st, hS, hE, q⟩ := q
  refine ⟨ρ, env, st, hS, hE, (Post.bindI q).mono ?_⟩
  rintro v H1 ⟨ws, s1, ρ1, e1, hS1, x1, r1, h1⟩
  unfold itRange at h1
  split at h1
  · exfalso
    have len : ∀ env st ws s, eArgs [α, β] env st = .ok ws s → ws.length = 2 := by
      intro env st ws s e
      simp only [eArgs] at e
      cases h1 : α env st with
      | ok w s1 =>
        rw [h1] at e; simp at e
        cases h2 : β env s1 with
        | ok w s2 => rw [h2] at e; simp at e; obtain ⟨rfl, _⟩ := e; rfl
        | exc x s1 => rw [h2] at e; cases e
        | stuck => rw [h2] at e; cases e
      | exc x s1 => rw [h1] at e; cases e
      | stuck => rw [h1] at e; cases e
    have := len _ _ _ _ e1
    simp at this
  · rename_i i j
    obtain ⟨v, _, rfl, rfl, v', _, rfl, rfl, rfl⟩ := r1
    split at h1
    · rename_i hc
      exact ⟨i, j, rfl, ⟨hc.1.1, hc.1.2, hc.2.1, hc.2.2⟩, h1 _ ρ1 H1 hS1 .refl (walks_rng i _ _ _)⟩
    · exact h1.elim
  · exact h1.elim
end
end M

-- Sound6
set_option Elab.async false
set_option autoImplicit false
set_option linter.all false
set_option maxRecDepth 100000
namespace M
open PySem L2
section
variable {Γ : Gm} {ρ : Pl} {H : Hp} {st : Store}
/-! ### data -/
mutual
def toP : W → PyData
  | .non => .none
  | .bl b => .bool b
  | .int i => .int i
  | .str s => .str ⟨s.toArray⟩
  | .tup ws => .tuple (toPL ws)
  | .lst ws => .list (toPL ws)
  | .ro ws => .list (toPL ws)
  | .loc _ => .none
  | .exv _ _ _ _ => .none
  | .rng _ _ => .none
  | .dctP _ _ => .none
  | .dct _ _ => .none
  | .ob _ _ _ => .none
def toPL : List W → List PyData
  | [] => []
  | w :: ws => toP w :: toPL ws
end
mutual
theorem dp_of : ∀ {w : W} {v : V} {n : Nat}, RepV Γ ρ H w v → w.okD n = true → Dp Γ.K H v (toP w)
  | .non, _, _, h, _ => by cases h; exact .non
  | .bl b, _, _, h, _ => by cases h; exact .bl b
  | .int i, _, _, h, _ => by cases h; exact .int i
  | .str s, _, _, h, _ => by obtain ⟨x, rfl, rfl⟩ := h; exact .str x
  | .tup ws, _, 0, _, k => by simp [W.okD] at k
  | .lst ws, _, 0, _, k => by simp [W.okD] at k
  | .ro ws, _, 0, _, k => by simp [W.okD] at k
  | .tup ws, _, n + 1, h, k => by
    obtain ⟨a, vs, rfl, t, r⟩ := h
    exact .tup t (dpl_of r (by simpa [W.okD] using k))
  | .lst ws, _, n + 1, h, k => by
    obtain ⟨a, vs, rfl, t, r⟩ := h
    exact .lst t.seq (dpl_of r (by simpa [W.okD] using k))
  | .ro ws, _, n + 1, h, k => by
    obtain ⟨a, vs, rfl, t, r⟩ := h
    exact .lst t.seq (dpl_of r (by simpa [W.okD] using k))
  | .loc n, _, _, _, k => by simp [W.okD] at k
  | .exv _ _ _ _, _, _, _, k => by simp [W.okD] at k
  | .rng _ _, _, _, _, k => by simp [W.okD] at k
  | .dctP _ _, _, _, _, k => by simp [W.okD] at k
  | .dct _ _, _, _, _, k => by simp [W.okD] at k
  | .ob _ _ _, _, _, _, k => by simp [W.okD] at k
theorem dpl_of : ∀ {ws : List W} {vs : List V} {n : Nat}, RepL Γ ρ H ws vs → okDL ws n = true → DpAll Γ.K H vs (toPL ws)
  | [], _, _, h, _ => by cases h; exact .nil
  | w :: ws, _, n, h, k => by
    obtain ⟨v, r, rfl, a, b⟩ := h
    simp [okDL] at k
    exact .cons (dp_of a k.1) (dpl_of b k.2)
end
mutual
theorem shp : ∀ {w : W} {n : Nat}, w.okD n = true → (toP w).canLay0 = true ∧ (toP w).depth ≤ n
  | .non, _, _ => by simp [toP, PyData.canLay0, PyData.depth]
  | .bl b, _, _ => by simp [toP, PyData.canLay0, PyData.depth]
  | .int i, _, _ => by simp [toP, PyData.canLay0, PyData.depth]
  | .str s, _, h => by
    simp only [toP, PyData.canLay0, PyData.depth, PyData.strOk]
    simp [W.okD] at h
    exact ⟨by simpa using h, Nat.zero_le _⟩
  | .tup ws, 0, k => by simp [W.okD] at k
  | .lst ws, 0, k => by simp [W.okD] at k
  | .ro ws, 0, k => by simp [W.okD] at k
  | .tup ws, n + 1, k => by
    obtain ⟨h1, h2⟩ := shpL (ws := ws) (n := n) (by simpa [W.okD] using k)
    simp only [toP, PyData.canLay0, PyData.depth]
    exact ⟨h1, by omega⟩
  | .lst ws, n + 1, k => by
    obtain ⟨h1, h2⟩ := shpL (ws := ws) (n := n) (by simpa [W.okD] using k)
    simp only [toP, PyData.canLay0, PyData.depth]
    exact ⟨h1, by omega⟩
  | .ro ws, n + 1, k => by
    obtain ⟨h1, h2⟩ := shpL (ws := ws) (n := n) (by simpa [W.okD] using k)
    simp only [toP, PyData.canLay0, PyData.depth]
    exact ⟨h1, by omega⟩
  | .loc n, _, k => by simp [W.okD] at k
  | .exv _ _ _ _, _, k => by simp [W.okD] at k
  | .rng _ _, _, k => by simp [W.okD] at k
  | .dctP _ _, _, k => by simp [W.okD] at k
  | .dct _ _, _, k => by simp [W.okD] at k
  | .ob _ _ _, _, k => by simp [W.okD] at k
theorem shpL : ∀ {ws : List W} {n : Nat}, okDL ws n = true → PyData.canLayAll0 (toPL ws) = true ∧ PyData.depthAll (toPL ws) ≤ n
  | [], _, _ => by simp [toPL, PyData.canLayAll0, PyData.depthAll]
  | w :: ws, n, k => by
    simp [okDL] at k
    obtain ⟨a1, a2⟩ := shp k.1
    obtain ⟨b1, b2⟩ := shpL k.2
    simp only [toPL, PyData.canLayAll0, PyData.depthAll, a1, b1]
    exact ⟨rfl, Nat.max_le.mpr ⟨a2, b2⟩⟩
end
theorem shaped_of {w : W} (h : w.okD 64 = true) : SeqAt.shaped (toP w) = true := by
  obtain ⟨h1, h2⟩ := shp h
  unfold SeqAt.shaped
  simp [h1, h2]
theorem str_mk (a b : List Nat) : ((⟨a.toArray⟩ : Str) == (⟨b.toArray⟩ : Str)) = (a == b) := by
  rw [Bool.eq_iff_iff]
  simp
mutual
theorem eqv_of : ∀ {a b : W} {n m : Nat}, a.okD n = true → b.okD m = true → PyData.eqv (toP a) (toP b) = a.eqv b
  | .loc _, _, _, _, h, _ => by simp [W.okD] at h
  | .exv _ _ _ _, _, _, _, h, _ => by simp [W.okD] at h
  | .rng _ _, _, _, _, h, _ => by simp [W.okD] at h
  | .dctP _ _, _, _, _, h, _ => by simp [W.okD] at h
  | .dct _ _, _, _, _, h, _ => by simp [W.okD] at h
  | .ob _ _ _, _, _, _, h, _ => by simp [W.okD] at h
  | .non, b, _, _, _, k => by cases b <;> first | rfl | (simp [W.okD] at k)
  | .bl x, b, _, _, _, k => by cases b <;> first | rfl | (simp [W.okD] at k)
  | .int x, b, _, _, _, k => by cases b <;> first | rfl | (simp [W.okD] at k)
  | .str x, b, _, _, _, k => by
    cases b with
    | str y => simp only [toP, PyData.eqv, W.eqv]; exact str_mk x y
    | loc _ => simp [W.okD] at k
    | exv _ _ _ _ => simp [W.okD] at k
    | rng _ _ => simp [W.okD] at k
    | dctP _ _ => simp [W.okD] at k
    | dct _ _ => simp [W.okD] at k
    | ob _ _ _ => simp [W.okD] at k
    | _ => rfl
  | .tup x, b, 0, _, h, _ => by simp [W.okD] at h
  | .lst x, b, 0, _, h, _ => by simp [W.okD] at h
  | .ro x, b, 0, _, h, _ => by simp [W.okD] at h
  | .tup x, b, n + 1, m, h, k => by
    cases b with
    | tup y =>
      cases m with
      | zero => simp [W.okD] at k
      | succ m => simp only [toP, PyData.eqv, W.eqv]; exact eqvL_of (by simpa [W.okD] using h) (by simpa [W.okD] using k)
    | loc _ => simp [W.okD] at k
    | exv _ _ _ _ => simp [W.okD] at k
    | rng _ _ => simp [W.okD] at k
    | dctP _ _ => simp [W.okD] at k
    | dct _ _ => simp [W.okD] at k
    | ob _ _ _ => simp [W.okD] at k
    | _ => rfl
  | .lst x, b, n + 1, m, h, k => by
    cases b with
    | lst y =>
      cases m with
      | zero => simp [W.okD] at k
      | succ m => simp only [toP, PyData.eqv, W.eqv]; exact eqvL_of (by simpa [W.okD] using h) (by simpa [W.okD] using k)
    | ro y =>
      cases m with
      | zero => simp [W.okD] at k
      | succ m => simp only [toP, PyData.eqv, W.eqv]; exact eqvL_of (by simpa [W.okD] using h) (by simpa [W.okD] using k)
    | loc _ => simp [W.okD] at k
    | exv _ _ _ _ => simp [W.okD] at k
    | rng _ _ => simp [W.okD] at k
    | dctP _ _ => simp [W.okD] at k
    | dct _ _ => simp [W.okD] at k
    | ob _ _ _ => simp [W.okD] at k
    | _ => rfl
  | .ro x, b, n + 1, m, h, k => by
    cases b with
    | lst y =>
      cases m with
      | zero => simp [W.okD] at k
      | succ m => simp only [toP, PyData.eqv, W.eqv]; exact eqvL_of (by simpa [W.okD] using h) (by simpa [W.okD] using k)
    | ro y =>
      cases m with
      | zero => simp [W.okD] at k
      | succ m => simp only [toP, PyData.eqv, W.eqv]; exact eqvL_of (by simpa [W.okD] using h) (by simpa [W.okD] using k)
    | loc _ => simp [W.okD] at k
    | exv _ _ _ _ => simp [W.okD] at k
    | rng _ _ => simp [W.okD] at k
    | dctP _ _ => simp [W.okD] at k
    | dct _ _ => simp [W.okD] at k
    | ob _ _ _ => simp [W.okD] at k
    | _ => rfl
theorem eqvL_of : ∀ {a b : List W} {n m : Nat}, okDL a n = true → okDL b m = true → PyData.eqvAll (toPL a) (toPL b) = eqvL a b
  | [], [], _, _, _, _ => by simp [toPL, PyData.eqvAll, eqvL]
  | [], _ :: _, _, _, _, _ => by simp [toPL, PyData.eqvAll, eqvL]
  | _ :: _, [], _, _, _, _ => by simp [toPL, PyData.eqvAll, eqvL]
  | x :: xs, y :: ys, n, m, h, k => by
    simp [okDL] at h k
    simp only [toPL, PyData.eqvAll, eqvL]
    rw [eqv_of h.1 k.1, eqvL_of h.2 k.2]
end
/-- a store's list as data -/
theorem dp_look {w : W} {v : V} (hS : RelS Γ ρ H st) (r : RepV Γ ρ H w v) (k : (look st w).okD 64 = true) : Dp Γ.K H v (toP (look st w)) := by
  unfold look at k ⊢
  cases w with
  | loc n =>
    simp only at k ⊢
    cases e : st[n]? with
    | none => rw [e] at k; simp [W.okD] at k
    | some c =>
      rw [e] at k
      cases c with
      | lst ws =>
        simp only at k ⊢
        obtain ⟨a, rfl, ha⟩ := r
        obtain ⟨vs, ob, rl⟩ := hS.at_ n _ a e ha
        exact .lst (.of ob) (dpl_of rl (n := 63) (by simpa [W.okD] using k))
      | dict _ => simp [W.okD] at k
      | obj _ _ => simp [W.okD] at k
      | dictP _ => simp [W.okD] at k
      | gone => simp [W.okD] at k
  | _ => exact dp_of r k
theorem sem_eq : SemOp Γ (rEqD Γ.K) opEq := by
  intro Z σ ρ H st x y xv yv Q hS rx ry h
  unfold opEq at h
  split at h
  · rename_i c
    exact ⟨_, _, dp_look hS rx c.1, dp_look hS ry c.2, shaped_of c.1, shaped_of c.2, by rw [eqv_of c.1 c.2]; exact h _ ρ H hS .refl rfl⟩
  · exact h.elim
theorem sem_ne : SemOp Γ (rNeD Γ.K) opNe := by
  intro Z σ ρ H st x y xv yv Q hS rx ry h
  unfold opNe at h
  split at h
  · rename_i c
    exact ⟨_, _, dp_look hS rx c.1, dp_look hS ry c.2, shaped_of c.1, shaped_of c.2, by rw [eqv_of c.1 c.2]; exact h _ ρ H hS .refl rfl⟩
  · exact h.elim

/-! ### ints -/
theorem sem_I {g : Int → Int → W} {gv : Int → Int → V} (hg : ∀ i j ρ H, RepV Γ ρ H (g i j) (gv i j)) : SemOp Γ (rI0 gv) (opI g) := by
  intro Z σ ρ H st x y xv yv Q hS rx ry h
  unfold opI at h
  cases x with
  | int i =>
    cases y with
    | int j => cases rx; cases ry; exact ⟨i, j, rfl, rfl, h _ ρ H hS .refl (hg i j ρ H)⟩
    | _ => exact h.elim
  | _ => exact h.elim
theorem sem_Ic {c : Int → Int → Prop} {C : Int → Int → Prop} {g : Int → Int → W} {gv : Int → Int → V} (hc : ∀ i j, c i j → C i j) (hg : ∀ i j ρ H, c i j → RepV Γ ρ H (g i j) (gv i j)) : SemOp Γ (rI C gv) (opIc c g) := by
  intro Z σ ρ H st x y xv yv Q hS rx ry h
  unfold opIc at h
  cases x with
  | int i =>
    cases y with
    | int j =>
      cases rx; cases ry
      by_cases k : c i j
      · simp only [if_pos k] at h
        exact ⟨i, j, rfl, rfl, hc i j k, h _ ρ H hS .refl (hg i j ρ H k)⟩
      · simp only [if_neg k] at h; exact h.elim
    | _ => exact h.elim
  | _ => exact h.elim
theorem sem_sub : SemOp Γ (rI0 fun i j => .int (i - j)) opSub := sem_I fun _ _ _ _ => rfl
theorem mul_any {X : Cx} : OpR X (binaryOp .Mult) (rI (fun i j => (-(2 ^ 64) < i ∧ i < 2 ^ 64) ∨ (-(2 ^ 64) < j ∧ j < 2 ^ 64) ∨ i.natAbs.log2 + j.natAbs.log2 < 1000000) fun i j => .int (i * j)) := fun pins s σ H x y v u Q I rx ry h => (op_mul.or op_mulW) pins s σ H x y v u Q I rx ry (by
  obtain ⟨i, j, e1, e2, c, q⟩ := h
  rcases c with c | c | c
  · exact .inl ⟨i, j, e1, e2, .inl c, q⟩
  · exact .inl ⟨i, j, e1, e2, .inr c, q⟩
  · exact .inr ⟨i, j, e1, e2, c, q⟩)
theorem sem_mul : SemOp Γ (rI (fun i j => (-(2 ^ 64) < i ∧ i < 2 ^ 64) ∨ (-(2 ^ 64) < j ∧ j < 2 ^ 64) ∨ i.natAbs.log2 + j.natAbs.log2 < 1000000) fun i j => .int (i * j)) opMul := sem_Ic (fun _ _ h => h) fun _ _ _ _ _ => rfl
theorem sem_div : SemOp Γ (rI CDivW fun i j => .int (i / j)) opDiv := sem_Ic (fun _ _ h => h) fun _ _ _ _ _ => rfl
theorem sem_mod : SemOp Γ (rI (fun _ j => 0 < j) fun i j => .int (i % j)) opMod := sem_Ic (fun _ _ h => h) fun _ _ _ _ _ => rfl
theorem sem_pow : SemOp Γ (rI CPow fun i j => .int (i ^ j.toNat)) opPow := sem_Ic (fun _ _ h => h) fun _ _ _ _ _ => rfl
theorem sem_shl : SemOp Γ (rI CPow fun i j => .int (i * 2 ^ j.toNat)) opShl := sem_Ic (fun _ _ h => h) fun _ _ _ _ _ => rfl
theorem sem_shr : SemOp Γ (rI (fun _ j => 0 ≤ j) fun i j => .int (i / 2 ^ j.toNat)) opShr := sem_Ic (fun _ _ h => h) fun _ _ _ _ _ => rfl
theorem sem_lt : SemOp Γ (rI0 fun i j => .bl (decide (i < j))) opLt := sem_I fun _ _ _ _ => rfl
theorem sem_le : SemOp Γ (rI0 fun i j => .bl (decide (i ≤ j))) opLe := sem_I fun _ _ _ _ => rfl
theorem sem_gt : SemOp Γ (rI0 fun i j => .bl (decide (j < i))) opGt := sem_I fun _ _ _ _ => rfl
theorem sem_ge : SemOp Γ (rI0 fun i j => .bl (decide (j ≤ i))) opGe := sem_I fun _ _ _ _ => rfl
theorem rI_0 {C : Int → Int → Prop} {g : Int → Int → V} {x y : V} {H : Hp} {Q : VK} (h : rI C g x y H Q) : rI0 g x y H Q := by
  obtain ⟨i, j, e1, e2, _, q⟩ := h
  exact ⟨i, j, e1, e2, q⟩
theorem and_nn {i j : Int} (hi : 0 ≤ i) (hj : 0 ≤ j) : Builtin.bitAnd i j = ((i.toNat &&& j.toNat : Nat) : Int) := by
  unfold Builtin.bitAnd
  rw [decide_eq_true hi, decide_eq_true hj]
theorem not_neg {i : Int} (hi : 0 ≤ i) : decide (0 ≤ Builtin.bitNot i) = false := by
  unfold Builtin.bitNot
  exact decide_eq_false (by omega)
theorem not_not (i : Int) : Builtin.bitNot (Builtin.bitNot i) = i := by
  unfold Builtin.bitNot
  omega
theorem or_nn {i j : Int} (hi : 0 ≤ i) (hj : 0 ≤ j) : Builtin.bitOr i j = ((i.toNat ||| j.toNat : Nat) : Int) := by
  unfold Builtin.bitOr Builtin.bitAnd
  rw [not_neg hi, not_neg hj]
  simp only [not_not]
theorem xor_nat (m n : Nat) : (m ^^^ n) + (m &&& n) = m ||| n := by
  have h : (m ^^^ n) &&& (m &&& n) = 0 := by
    apply Nat.eq_of_testBit_eq
    intro i
    simp only [Nat.testBit_and, Nat.testBit_xor, Nat.zero_testBit]
    cases m.testBit i <;> cases n.testBit i <;> rfl
  have h2 : (m ^^^ n) ||| (m &&& n) = m ||| n := by
    apply Nat.eq_of_testBit_eq
    intro i
    simp only [Nat.testBit_and, Nat.testBit_xor, Nat.testBit_or]
    cases m.testBit i <;> cases n.testBit i <;> rfl
  rw [← h2]
  exact add_or _ _ h
where
  add_or : ∀ a b : Nat, a &&& b = 0 → a + b = a ||| b := by
    intro a
    induction a using Nat.strongRecOn with
    | _ a ih =>
      intro b h
      by_cases ha : a = 0
      · subst ha; simp
      · have hd : (a / 2) &&& (b / 2) = 0 := by
          rw [← Nat.and_div_two, h]
        have hr := ih (a / 2) (by omega) (b / 2) hd
        have hm : ¬ (a % 2 = 1 ∧ b % 2 = 1) := by
          rintro ⟨h1, h2⟩
          have := congrArg (fun x => x % 2) h
          simp only [Nat.and_mod_two_pow (n := 1), Nat.pow_one, h1, h2] at this
          have h3 : (a &&& b) % 2 = 1 := by
            have := Nat.and_mod_two_pow (a := a) (b := b) (n := 1)
            simp only [Nat.pow_one, h1, h2] at this
            simpa using this
          rw [h] at h3; simp at h3
        have e1 : (a ||| b) / 2 = (a / 2) ||| (b / 2) := Nat.or_div_two
        have e2 : (a ||| b) % 2 = (a % 2) ||| (b % 2) := by
          have := Nat.or_mod_two_pow (a := a) (b := b) (n := 1)
          simpa using this
        have a2 : a % 2 = 0 ∨ a % 2 = 1 := by omega
        have b2 : b % 2 = 0 ∨ b % 2 = 1 := by omega
        have e3 : (a ||| b) % 2 = a % 2 + b % 2 := by
          rw [e2]
          rcases a2 with p | p <;> rcases b2 with q | q <;> rw [p, q] <;> first | rfl | exact absurd ⟨p, q⟩ hm
        omega
theorem xor_nn {i j : Int} (hi : 0 ≤ i) (hj : 0 ≤ j) : Builtin.bitXor i j = ((i.toNat ^^^ j.toNat : Nat) : Int) := by
  unfold Builtin.bitXor
  rw [or_nn hi hj, and_nn hi hj, ← xor_nat]
  omega
theorem sem_and : SemOp Γ (rI0 fun i j => .int (Builtin.bitAnd i j)) opAnd := fun Z σ ρ H st x y xv yv Q hS rx ry h => rI_0 (sem_Ic (C := fun _ _ => True) (fun _ _ _ => trivial) (fun i j ρ H c => by rw [and_nn c.1 c.2]; rfl) Z σ ρ H st x y xv yv Q hS rx ry h)
theorem sem_or : SemOp Γ (rI0 fun i j => .int (Builtin.bitOr i j)) opOr := fun Z σ ρ H st x y xv yv Q hS rx ry h => rI_0 (sem_Ic (C := fun _ _ => True) (fun _ _ _ => trivial) (fun i j ρ H c => by rw [or_nn c.1 c.2]; rfl) Z σ ρ H st x y xv yv Q hS rx ry h)
theorem sem_xor : SemOp Γ (rI0 fun i j => .int (Builtin.bitXor i j)) opXor := fun Z σ ρ H st x y xv yv Q hS rx ry h => rI_0 (sem_Ic (C := fun _ _ => True) (fun _ _ _ => trivial) (fun i j ρ H c => by rw [xor_nn c.1 c.2]; rfl) Z σ ρ H st x y xv yv Q hS rx ry h)
end
end M

-- Sound7
set_option Elab.async false
set_option autoImplicit false
set_option linter.all false
set_option maxRecDepth 100000
namespace M
open PySem L2
section
variable {Γ : Gm} {Z : WX} {X : Cx} {a b c e o : Expr} {es : List Expr} {pos p tp : Pos} {α β δ : IE}
theorem seqOf_rep {ρ : Pl} {H : Hp} {st : Store} {x : W} {v : V} {ws : List W} (hS : RelS Γ ρ H st) (r : RepV Γ ρ H x v) (e : seqOf st x = some ws) : ∃ t a vs, v = .ref a ∧ SqK Γ.K t H a vs ∧ RepL Γ ρ H ws vs ∧ (t = true → ∃ us, x = .tup us) := by
  unfold seqOf at e
  cases x with
  | tup us => cases e; obtain ⟨a, vs, rfl, t, rl⟩ := r; exact ⟨true, a, vs, rfl, t, rl, fun _ => ⟨_, rfl⟩⟩
  | lst us => cases e; obtain ⟨a, vs, rfl, t, rl⟩ := r; exact ⟨false, a, vs, rfl, t.seq, rl, fun z => by cases z⟩
  | ro us => cases e; obtain ⟨a, vs, rfl, t, rl⟩ := r; exact ⟨false, a, vs, rfl, t.seq, rl, fun z => by cases z⟩
  | loc n =>
    simp only at e
    obtain ⟨a, rfl, ha⟩ := r
    cases e1 : st[n]? with
    | none => rw [e1] at e; cases e
    | some cl =>
      rw [e1] at e
      cases cl with
      | lst us => cases e; obtain ⟨vs, ob, rl⟩ := hS.at_ n _ a e1 ha; exact ⟨false, a, vs, rfl, .of ob, rl, fun z => by cases z⟩
      | dict _ => cases e
      | obj _ _ => cases e
      | dictP _ => cases e
      | gone => cases e
  | _ => cases e
theorem lstOf_ob {ρ : Pl} {H : Hp} {st : Store} {x : W} {v : V} {ws : List W} (hS : RelS Γ ρ H st) (r : RepV Γ ρ H x v) (e : lstOf st x = some ws) : ∃ a vs, v = .ref a ∧ H a = some (.lst vs) ∧ RepL Γ ρ H ws vs := by
  unfold lstOf at e
  cases x with
  | lst us => cases e; obtain ⟨a, vs, rfl, t, rl⟩ := r; exact ⟨a, vs, rfl, t.1, rl⟩
  | loc n =>
    simp only at e
    obtain ⟨a, rfl, ha⟩ := r
    cases e1 : st[n]? with
    | none => rw [e1] at e; cases e
    | some cl =>
      rw [e1] at e
      cases cl with
      | lst us => cases e; obtain ⟨vs, ob, rl⟩ := hS.at_ n _ a e1 ha; exact ⟨a, vs, rfl, ob, rl⟩
      | dict _ => cases e
      | obj _ _ => cases e
      | dictP _ => cases e
      | gone => cases e
  | _ => cases e
/-! ### + -/
theorem add_any : OpR X (binaryOp .Add) (fun x y H Q => rI0 (fun i j => .int (i + j)) x y H Q ∨ (∃ i j, x = .str i ∧ y = .str j ∧ i.length + j.length ≤ sizeLine ∧ Q (.str (i ++ j)) H) ∨ rCatA X.K x y H Q ∨ rCat x y H Q) :=
  op_add.or (op_add_str.or (op_catA.or op_cat))
theorem cps_app (a b : Str) : (a ++ b).cps.toList = a.cps.toList ++ b.cps.toList := by
  show (a.cps ++ b.cps).toList = _
  simp
theorem cps_len (a : Str) : a.length = a.cps.toList.length := by
  show a.cps.size = _
  simp
theorem sem_add : SemOp Γ (fun x y H Q => rI0 (fun i j => .int (i + j)) x y H Q ∨ (∃ i j, x = .str i ∧ y = .str j ∧ i.length + j.length ≤ sizeLine ∧ Q (.str (i ++ j)) H) ∨ rCatA Γ.K x y H Q ∨ rCat x y H Q) opAdd := by
  intro Z σ ρ H st x y xv yv Q hS rx ry h
  unfold opAdd at h
  split at h
  · cases rx; cases ry; exact .inl ⟨_, _, rfl, rfl, h _ ρ H hS .refl rfl⟩
  · rename_i s1 s2
    obtain ⟨x1, rfl, rfl⟩ := rx
    obtain ⟨x2, rfl, rfl⟩ := ry
    split at h
    · rename_i hz
      exact .inr (.inl ⟨x1, x2, rfl, rfl, by rw [cps_len, cps_len]; exact hz, h _ ρ H hS .refl ⟨x1 ++ x2, rfl, cps_app _ _⟩⟩)
    · exact h.elim
  · rename_i as bs
    obtain ⟨a, vs, rfl, t1, r1⟩ := rx
    obtain ⟨b, us, rfl, t2, r2⟩ := ry
    split at h
    · rename_i hz
      refine .inr (.inr (.inl ⟨a, b, vs, us, rfl, rfl, t1, t2, by rw [r1.len, r2.len]; exact hz, fun e => ?_, fun e1 e2 => ?_, fun e1 e2 p hp => ?_⟩))
      · subst e
        have : as = [] := List.length_eq_zero_iff.mp (by rw [← r1.len]; rfl)
        subst this
        exact h _ ρ H hS .refl ⟨b, us, rfl, t2, r2⟩
      · subst e2
        have : bs = [] := List.length_eq_zero_iff.mp (by rw [← r2.len]; rfl)
        subst this
        exact h _ ρ H hS .refl ⟨a, vs, rfl, t1, by simpa using r1⟩
      · exact h _ ρ _ (hS.free hp) (.free hp) ⟨p, vs ++ us, rfl, .of upd_same, (r1.app r2).ext (.free hp)⟩
    · exact h.elim
  · split at h
    · rename_i as bs e1 e2
      obtain ⟨a, vs, rfl, o1, r1⟩ := lstOf_ob hS rx e1
      obtain ⟨b, us, rfl, o2, r2⟩ := lstOf_ob hS ry e2
      split at h
      · rename_i hz
        refine .inr (.inr (.inr ⟨a, b, vs, us, rfl, rfl, o1, o2, by rw [r1.len, r2.len]; exact hz, fun p hp => ?_⟩))
        exact h _ ρ _ (hS.free hp) (.free hp) ⟨p, vs ++ us, rfl, ⟨upd_same, .inl (hS.new_ni hp), hS.new_no hp⟩, (r1.app r2).ext (.free hp)⟩
      · exact h.elim
    · exact h.elim
theorem l_cat (ha : PE X a (rd Γ Z α)) (hb : PE X b (rd Γ Z β)) : PE X (.BinOp a .Add b pos) (rdL Γ Z (lCat α β)) := by
  refine PE.imp (pe_op op_cat ha hb) ?_
  rintro σ H Q ⟨ρ, env, st, hS, hE, h⟩
  refine ⟨ρ, env, st, hS, hE, (Post.bindL hS h).mono ?_⟩
  rintro v H1 ⟨w, s1, ρ1, e1, hS1, x1, r1, h1⟩
  refine ⟨ρ1, env, s1, hS1, hE.ext x1, (Post.bindL hS1 h1).mono ?_⟩
  rintro u H2 ⟨w2, s2, ρ2, e2, hS2, x2, r2, h2⟩
  split at h2
  · rename_i as bs e3 e4
    obtain ⟨a, vs, rfl, o1, q1⟩ := lstOf_ob hS2 (r1.ext x2) e3
    obtain ⟨b, us, rfl, o2, q2⟩ := lstOf_ob hS2 r2 e4
    split at h2
    · rename_i hz
      refine ⟨a, b, vs, us, rfl, rfl, o1, o2, by rw [q1.len, q2.len]; exact hz, fun p hp => ?_⟩
      exact h2 p _ ρ2 _ (Fresh.of hS2 hp (q1.app q2))
    · exact h2.elim
  · exact h2.elim
/-! ### in, is -/
theorem eqV_W {ρ : Pl} {H : Hp} {x y : W} {xv yv : V} (rx : RepV Γ ρ H x xv) (ry : RepV Γ ρ H y yv) (fx : x.flat = true) (fy : y.flat = true) : eqV xv yv = x.eqv y ∧ flatV xv = true := by
  cases x <;> simp [W.flat] at fx <;> cases y <;> simp [W.flat] at fy
  all_goals
    simp only [RepV] at rx ry
  all_goals (try subst rx) <;> (try subst ry)
  all_goals (try obtain ⟨x1, rfl, rfl⟩ := rx) <;> (try obtain ⟨x2, rfl, rfl⟩ := ry)
  all_goals (refine ⟨?_, rfl⟩)
  all_goals first
    | rfl
    | (simp only [eqV, W.eqv]; rw [Bool.eq_iff_iff]; simp; constructor; (intro h; rw [h]); (intro h; cases x1; cases x2; congr 1; exact Array.toList_inj.mp h))
    | (simp only [eqV, W.eqv]; rw [Bool.eq_iff_iff]; simp; constructor; (intro h; rw [h]); (intro h; cases x1; cases x2; simp_all))
    | (simp only [eqV, W.eqv]; rw [Bool.eq_iff_iff]; simp)
theorem flat_V {ρ : Pl} {H : Hp} {x : W} {xv : V} (rx : RepV Γ ρ H x xv) (fx : x.flat = true) : flatV xv = true := (eqV_W rx rx fx fx).2
theorem any_V {ρ : Pl} {H : Hp} {x : W} {xv : V} (rx : RepV Γ ρ H x xv) (fx : x.flat = true) : ∀ {ws : List W} {vs : List V}, RepL Γ ρ H ws vs → ws.all W.flat = true → inV xv vs = (ws.any fun y => y.eqv x) ∧ vs.all flatV = true
  | [], _, h, _ => by cases h; exact ⟨rfl, rfl⟩
  | w :: ws, _, h, k => by
    obtain ⟨v, r, rfl, a, b⟩ := h
    simp only [List.all_cons, Bool.and_eq_true] at k
    obtain ⟨h1, h2⟩ := any_V rx fx b k.2
    obtain ⟨g1, g2⟩ := eqV_W a rx k.1 fx
    unfold inV at h1 ⊢
    simp only [List.any_cons, List.all_cons, g1, g2, h1, h2]
    simp
theorem sem_in (neg : Bool) : SemOp Γ (rIn Γ.K neg) (opIn neg) := by
  intro Z σ ρ H st x y xv yv Q hS rx ry h
  unfold opIn at h
  cases e : seqOf st y with
  | none => rw [e] at h; exact h.elim
  | some ws =>
    simp only [e] at h
    obtain ⟨t, a, vs, rfl, hq, rl, _⟩ := seqOf_rep hS ry e
    split at h
    · rename_i hc
      obtain ⟨h1, h2⟩ := any_V rx hc.1 rl hc.2
      refine ⟨a, vs, rfl, by cases t; exact .inl hq; exact .inr hq, flat_V rx hc.1, h2, ?_⟩
      rw [h1]
      exact h _ ρ H hS .refl rfl
    · exact h.elim
theorem non_iff {ρ : Pl} {H : Hp} {x : W} {xv : V} (rx : RepV Γ ρ H x xv) : decide (xv = .non) = x.isNon := by
  cases x with
  | non => cases rx; rfl
  | bl b => cases rx; rfl
  | int i => cases rx; rfl
  | str s => obtain ⟨x, rfl, _⟩ := rx; rfl
  | tup ws => obtain ⟨a, vs, rfl, _⟩ := rx; rfl
  | lst ws => obtain ⟨a, vs, rfl, _⟩ := rx; rfl
  | ro ws => obtain ⟨a, vs, rfl, _⟩ := rx; rfl
  | loc n => obtain ⟨a, rfl, _⟩ := rx; rfl
  | dct ks ws => obtain ⟨a, kvs, rfl, _⟩ := rx; rfl
  | ob c ns ws => obtain ⟨a, C, dx, gs, rfl, _⟩ := rx; rfl
  | exv a c f ws => obtain ⟨rfl, _⟩ := rx; rfl
  | rng i j => obtain ⟨a, rfl, _⟩ := rx; rfl
  | dctP ks ws => obtain ⟨a, xs, us, rfl, _⟩ := rx; rfl
theorem sem_isN : SemOp Γ (fun x y H Q => y = .non ∧ Q (.bl (decide (x = .non))) H) opIsN := by
  intro Z σ ρ H st x y xv yv Q hS rx ry h
  unfold opIsN at h
  cases y with
  | non => cases ry; exact ⟨rfl, by rw [non_iff rx]; exact h _ ρ H hS .refl rfl⟩
  | _ => exact h.elim
theorem sem_notN : SemOp Γ (fun x y H Q => y = .non ∧ Q (.bl (!decide (x = .non))) H) opNotN := by
  intro Z σ ρ H st x y xv yv Q hS rx ry h
  unfold opNotN at h
  cases y with
  | non =>
    cases ry; exact ⟨rfl, by rw [non_iff rx]; exact h _ ρ H hS .refl rfl⟩
  | _ => exact h.elim
theorem sem_neg : SemUn Γ (rU fun i => .int (-i)) unNeg := by
  intro Z σ ρ H st x xv Q hS rx h
  unfold unNeg at h
  cases x with
  | int i => cases rx; exact ⟨i, rfl, h _ ρ H hS .refl rfl⟩
  | _ => exact h.elim
/-! ### places -/
theorem ixW_ixN (n : Nat) (i : Int) : ixW n i = ixN n i := rfl
theorem atW_atI {ρ : Pl} {H : Hp} {ws : List W} {vs : List V} {i : Int} {w : W} (rl : RepL Γ ρ H ws vs) (e : atW ws i = some w) : ∃ v, atI vs i = some v ∧ RepV Γ ρ H w v := by
  unfold atW at e
  unfold atI
  rw [ixW_ixN] at e
  rw [rl.len]
  cases e1 : ixN ws.length i with
  | none => rw [e1] at e; cases e
  | some j =>
    rw [e1] at e
    exact rl.get e
theorem i_ix (hK : X.K = Γ.K) (ha : PE X a (rd Γ Z α)) (hb : PE X b (rd Γ Z β)) (hs : PlainIx b := by exact fun _ _ => rfl) : PE X (.Subscript a b pos) (rd Γ Z (eOp opIx α β)) := by
  refine PE.imp (pe_ix (ix_list.or ix_tup) ha hb hs) fun σ H Q h => rd_op (r := fun x y H Q => rIxL X.K x y H Q ∨ rIxT X.K x y H Q) ?_ h
  intro Z σ ρ H st x y xv yv Q hS rx ry h
  unfold opIx at h
  split at h
  · rename_i ws i e
    obtain ⟨t, p, vs, rfl, hq, rl, _⟩ := seqOf_rep hS rx e
    cases ry
    split at h
    · rename_i w e2
      obtain ⟨v, ev, rv⟩ := atW_atI rl e2
      rw [hK]
      cases t
      · exact .inl ⟨p, vs, i, v, rfl, rfl, hq, ev, h v ρ H hS .refl rv⟩
      · exact .inr ⟨p, vs, i, v, rfl, rfl, hq, ev, h v ρ H hS .refl rv⟩
    · exact h.elim
  · exact h.elim
theorem s_setIx {sp : Pos} (hv : PE X e (rd Γ Z α)) (ho : PE X o (rd Γ Z β)) (hi : PE X b (rd Γ Z δ)) (hs : PSet X rSetL := set_list) (ha : PG X (.Subscript o b sp) (gSub (rd Γ Z β) (rd Γ Z δ) rSetL))
    (h1 : swapsWithSole [.Subscript o b sp] e pos.line X.env = pure false := by rfl) (h2 : swappedStores [.Subscript o b sp] e X.env = pure none := by rfl) (h3 : (assignEach [.Subscript o b sp] X.env).map (·.2) = [assign (.Subscript o b sp) X.env] := by rfl) :
    PS X (.Assign [.Subscript o b sp] e pos) (rdS Γ Z (sSetIx β δ α)) := by
  refine PS.imp (ps_asg hv ha h1 h2 h3) ?_
  rintro D σ H ⟨ρ, env, st, hS, hE, h⟩
  refine ⟨ρ, env, st, hS, hE, ?_⟩
  unfold sSetIx at h
  cases e1 : α env st with
  | exc x s => rw [e1] at h; exact fun ρ' H' c d a y r => h σ ρ' H' c d a y (hE.ext y) r
  | stuck => rw [e1] at h; exact h
  | ok v s1 =>
    simp only [e1] at h
    intro vv ρ1 H1 hS1 x1 r1
    refine ⟨ρ1, env, s1, hS1, hE.ext x1, ?_⟩
    cases e2 : β env s1 with
    | exc x s => simp only [e2] at h; exact fun ρ' H' c d a y r => h σ ρ' H' c d a (x1.trans y) ((hE.ext x1).ext y) r
    | stuck => simp only [e2] at h; exact h
    | ok x s2 =>
      simp only [e2] at h
      intro xv ρ2 H2 hS2 x2 r2
      refine ⟨ρ2, env, s2, hS2, (hE.ext x1).ext x2, ?_⟩
      cases e3 : δ env s2 with
      | exc x s => simp only [e3] at h; exact fun ρ' H' c d a y r => h σ ρ' H' c d a ((x1.trans x2).trans y) (((hE.ext x1).ext x2).ext y) r
      | stuck => simp only [e3] at h; exact h
      | ok y s3 =>
        simp only [e3] at h
        intro yv ρ3 H3 hS3 x3 r3
        cases e4 : setIx x y v s3 with
        | none => rw [e4] at h; exact h.elim
        | some s4 =>
          simp only [e4] at h
          unfold setIx at e4
          split at e4
          · rename_i n i
            cases r3
            obtain ⟨p, rfl, hp⟩ := r2
            have hp3 := x3.pre n p hp
            cases e5 : s3[n]? with
            | none => rw [e5] at e4; cases e4
            | some cl =>
              rw [e5] at e4
              cases cl with
              | dict _ => cases e4
              | obj _ _ => cases e4
              | dictP _ => cases e4
              | gone => cases e4
              | lst ws =>
                simp only at e4
                cases e6 : ixW ws.length i with
                | none => rw [e6] at e4; cases e4
                | some j =>
                  rw [e6] at e4
                  cases e4
                  obtain ⟨vs, ob, rl⟩ := hS3.at_ n _ p e5 hp3
                  have hw : Ext Γ ρ3 H3 ρ3 (upd H3 p (.lst (vs.set j vv))) := Ext.write hS3 hp3 e5 ob trivial
                  refine ⟨p, vs, i, j, rfl, rfl, ob, by rw [rl.len, ← ixW_ixN]; exact e6, ?_⟩
                  refine h σ ρ3 _ (hS3.write hp3 e5 ob trivial ⟨_, upd_same, ?_⟩) (((x1.trans x2).trans x3).trans hw) ((((hE.ext x1).ext x2).ext x3).ext hw)
                  exact (rl.set j (r1.ext (x2.trans x3))).ext hw
          · cases e4
/-- the target xs[i] -/
theorem g_sub {sp : Pos} (ho : PE X o (rd Γ Z β)) (hi : PE X b (rd Γ Z δ)) (k : PG X (.Subscript o b sp) (gSub (rd Γ Z β) (rd Γ Z δ) rSetL) := by exact pg_sub (by assumption) (by assumption) set_list) : PG X (.Subscript o b sp) (gSub (rd Γ Z β) (rd Γ Z δ) rSetL) := k
/-! ### slices -/
def rdP (Γ : Gm) (Z : WX) (ε : Env → Store → R (Option Int)) : TO := fun σ H Q => ∃ ρ env st, RelS Γ ρ H st ∧ RelE Γ ρ H env σ ∧ Post Γ (fun _ _ b c => b = c) Z σ ρ H Q (ε env st)
theorem o_none : PO X none (rdP Γ Z (part none)) := ⟨fun pins s σ H Q I h => po_none.run pins s σ H Q I (by obtain ⟨ρ, env, st, hS, hE, h⟩ := h; exact h none ρ H hS .refl rfl)⟩
theorem o_some (he : PE X e (rd Γ Z α)) : PO X (some e) (rdP Γ Z (part (some α))) := ⟨fun pins s σ H Q I h => (po_some he).run pins s σ H Q I (by
  obtain ⟨ρ, env, st, hS, hE, h⟩ := h
  refine ⟨ρ, env, st, hS, hE, (Post.bind h).mono ?_⟩
  rintro v H1 ⟨w, s1, ρ1, e1, hS1, x1, r1, h1⟩
  cases w with
  | int i => cases r1; exact ⟨i, rfl, h1 _ ρ1 H1 hS1 .refl rfl⟩
  | _ => exact h1.elim)⟩
theorem cut_rep {ρ : Pl} {H : Hp} {ws : List W} {vs : List V} (rl : RepL Γ ρ H ws vs) (lo hi : Option Int) : RepL Γ ρ H (cutW ws lo hi) (cutV vs lo hi) := by
  unfold cutW cutV
  rw [rl.len]
  exact (rl.drop _).take _
theorem l_sl {lo hi : Option Expr} {l h : Option IE} {p2 : Pos} (hK : X.K = Γ.K) (he : PE X e (rd Γ Z α)) (hl : PO X lo (rdP Γ Z (part l))) (hh : PO X hi (rdP Γ Z (part h))) : PE X (.Subscript e (.Slice lo hi none p2) pos) (rdL Γ Z (lSl α l h)) := by
  refine PE.imp (pe_slice sl_list he hl hh) ?_
  rintro σ H Q ⟨ρ, env, st, hS, hE, hp⟩
  refine ⟨ρ, env, st, hS, hE, (Post.bindL hS hp).mono ?_⟩
  rintro v H1 ⟨w, s1, ρ1, e1, hS1, x1, r1, h1⟩
  refine ⟨ρ1, env, s1, hS1, hE.ext x1, (Post.bindL hS1 h1).mono ?_⟩
  rintro i H2 ⟨i', s2, ρ2, e2, hS2, x2, rfl, h2⟩
  refine ⟨ρ2, env, s2, hS2, (hE.ext x1).ext x2, (Post.bindL hS2 h2).mono ?_⟩
  rintro j H3 ⟨j', s3, ρ3, e3, hS3, x3, rfl, h3⟩
  have r3 := (r1.ext x2).ext x3
  rw [hK]
  have go : ∀ {ws : List W} {a : Addr} {vs : List V}, SqL Γ.K H3 a vs → RepL Γ ρ3 H3 ws vs → PostL Γ Z σ ρ3 H3 Q (.ok (cutW ws i' j') s3) → rSlL Γ.K (.ref a) i' j' H3 Q := fun {ws a vs} hq rl k =>
    ⟨a, vs, rfl, hq, fun p hp => k p _ ρ3 _ (Fresh.of hS3 hp (cut_rep rl i' j'))⟩
  cases w with
  | lst ws => obtain ⟨a, vs, rfl, t, rl⟩ := r3; exact go t.seq rl h3
  | ro ws => obtain ⟨a, vs, rfl, t, rl⟩ := r3; exact go t.seq rl h3
  | loc n =>
    obtain ⟨a, rfl, ha⟩ := r3
    simp only at h3
    cases e5 : s3[n]? with
    | none => rw [e5] at h3; exact h3.elim
    | some cl =>
      rw [e5] at h3
      cases cl with
      | lst ws => obtain ⟨vs, ob, rl⟩ := hS3.at_ n _ a e5 ha; exact go (.of ob) rl h3
      | dict _ => exact h3.elim
      | obj _ _ => exact h3.elim
      | dictP _ => exact h3.elim
      | gone => exact h3.elim
  | _ => exact h3.elim
theorem i_slT {lo hi : Option Expr} {l h : Option IE} {p2 : Pos} (hK : X.K = Γ.K) (he : PE X e (rd Γ Z α)) (hl : PO X lo (rdP Γ Z (part l))) (hh : PO X hi (rdP Γ Z (part h))) : PE X (.Subscript e (.Slice lo hi none p2) pos) (rd Γ Z (eSlT α l h)) := by
  refine PE.imp (pe_slice sl_tupA he hl hh) ?_
  rintro σ H Q ⟨ρ, env, st, hS, hE, hp⟩
  refine ⟨ρ, env, st, hS, hE, (Post.bind hp).mono ?_⟩
  rintro v H1 ⟨w, s1, ρ1, e1, hS1, x1, r1, h1⟩
  refine ⟨ρ1, env, s1, hS1, hE.ext x1, (Post.bind h1).mono ?_⟩
  rintro i H2 ⟨i', s2, ρ2, e2, hS2, x2, rfl, h2⟩
  refine ⟨ρ2, env, s2, hS2, (hE.ext x1).ext x2, (Post.bind h2).mono ?_⟩
  rintro j H3 ⟨j', s3, ρ3, e3, hS3, x3, rfl, h3⟩
  have r3 := (r1.ext x2).ext x3
  rw [hK]
  cases w with
  | tup ws =>
    obtain ⟨a, vs, rfl, t, rl⟩ := r3
    refine ⟨a, vs, rfl, t, fun ⟨q1, q2⟩ => ?_, fun _ p hp => ?_⟩
    · have ec : cutV vs i' j' = vs := by
        unfold cutV
        rw [q1, q2]
        simp
      have rc := cut_rep rl i' j'
      rw [ec] at rc
      exact h3 _ ρ3 H3 hS3 .refl ⟨a, vs, rfl, t, rc⟩
    · exact h3 _ ρ3 _ (hS3.free hp) (.free hp) ⟨p, _, rfl, .of upd_same, (cut_rep rl i' j').ext (.free hp)⟩
  | _ => exact h3.elim
end
end M

-- Sound8
set_option Elab.async false
set_option autoImplicit false
set_option linter.all false
set_option maxRecDepth 100000
namespace M
open PySem L2
section
variable {Γ : Gm} {Z : WX} {X : Cx} {a b c e o : Expr} {es : List Expr} {pos p tp : Pos} {α β δ : IE} {αs : List IE}
/-! ### built-in functions and classes by values -/
def SemC (Γ : Gm) (r : List V → Hp → VK → Prop) (f : List W → Store → R W) : Prop := ∀ (Z : WX) (σ : L2.St) (ρ : Pl) (H : Hp) (st : Store) (xs : List W) (vs : List V) (Q : VK), RelS Γ ρ H st → RepL Γ ρ H xs vs → Post Γ (RepV Γ) Z σ ρ H Q (f xs st) → r vs H Q
theorem rd_cb {r : List V → Hp → VK → Prop} {f : List W → Store → R W} (hf : SemC Γ r f) {σ : L2.St} {H : Hp} {Q : VK} (h : rd Γ Z (eB f αs) σ H Q) : tCB r (rdA Γ Z (eArgs αs)) σ H Q := by
  obtain ⟨ρ, env, st, hS, hE, h⟩ := h
  refine ⟨ρ, env, st, hS, hE, (Post.bind h).mono ?_⟩
  rintro v H1 ⟨w, s1, ρ1, e1, hS1, x1, r1, h1⟩
  exact hf Z σ ρ1 H1 s1 w v Q hS1 r1 h1
theorem i_cb {id : String} {x : Str} {r : List V → Hp → VK → Prop} {f : List W → Store → R W} (hc : CallR X (.builtin id) r) (hf : SemC Γ r f) (hm : X.mg x = none) (ha : PA X (e :: es) (rdA Γ Z (eArgs αs))) (hv : bootBuiltins x = some (.builtin id) := by decide +kernel) (hg : Gl X x := by rfl) (hn : x ≠ "__name__" := by decide) (hdb : (x == ("__debug__" : Str)) = false := by decide)
    (he : starEach (e :: es) X.env = (false, eval e X.env) :: starEach es X.env := by rfl) (hpl : (backTo pos (starEach es X.env)).any (·.1) = false := by rfl) : PE X (.Call (.Name x p) (e :: es) [] pos) (rd Γ Z (eB f αs)) :=
  PE.imp (pe_callB hc hg hm hv ha hn hdb he hpl) fun _ _ _ h => rd_cb hf h
theorem i_ct {T : String} {x : Str} {r : List V → Hp → VK → Prop} {f : List W → Store → R W} (hc : CallR X (.type T) r) (hf : SemC Γ r f) (hm : X.mg x = none) (ha : PA X (e :: es) (rdA Γ Z (eArgs αs))) (hv : bootBuiltins x = some (.type T) := by decide +kernel) (hg : Gl X x := by rfl) (hn : x ≠ "__name__" := by decide) (hdb : (x == ("__debug__" : Str)) = false := by decide)
    (he : starEach (e :: es) X.env = (false, eval e X.env) :: starEach es X.env := by rfl) (hpl : (backTo pos (starEach es X.env)).any (·.1) = false := by rfl) : PE X (.Call (.Name x p) (e :: es) [] pos) (rd Γ Z (eB f αs)) :=
  PE.imp (pe_callTy hc hg hm hv ha hn hdb he hpl) fun _ _ _ h => rd_cb hf h
theorem sem_len : SemC Γ (fun xs H Q => ∃ x n, xs = [x] ∧ LenV Γ.K x H n ∧ Q (.int n) H) bLen := by
  intro Z σ ρ H st xs vs Q hS rl h
  unfold bLen at h
  split at h
  · rename_i s
    obtain ⟨_, _, rfl, ⟨x, rfl, rfl⟩, rfl⟩ := rl
    split at h
    · rename_i hz
      refine ⟨_, x.cps.toList.length, rfl, ⟨by rw [cps_len]; exact hz, (cps_len x).symm⟩, h _ ρ H hS .refl rfl⟩
    · exact h.elim
  · rename_i x _
    obtain ⟨v, _, rfl, rv, rfl⟩ := rl
    cases e : seqOf st x with
    | none => rw [e] at h; exact h.elim
    | some ws =>
      simp only [e] at h
      obtain ⟨t, a, us, rfl, hq, rl, _⟩ := seqOf_rep hS rv e
      refine ⟨_, ws.length, rfl, ?_, h _ ρ H hS .refl rfl⟩
      cases t
      · exact .inl ⟨us, hq, rl.len.symm⟩
      · exact .inr ⟨us, hq, rl.len.symm⟩
  · exact h.elim
theorem sem_int : SemC Γ (fun xs H Q => (∃ i, xs = [.int i] ∧ Q (.int i) H) ∨ ∃ k, xs = [.bl k] ∧ Q (.int (if k then 1 else 0)) H) bInt := by
  intro Z σ ρ H st xs vs Q hS rl h
  unfold bInt at h
  split at h
  · obtain ⟨_, _, rfl, rfl, rfl⟩ := rl
    exact .inl ⟨_, rfl, h _ ρ H hS .refl rfl⟩
  · obtain ⟨_, _, rfl, rfl, rfl⟩ := rl
    exact .inr ⟨_, rfl, h _ ρ H hS .refl rfl⟩
  · exact h.elim
theorem sem_tup : SemC Γ (fun xs H Q => ∃ p ys, xs = [.ref p] ∧ ((SqL Γ.K H p ys ∧ ∀ l, H l = none → Q (.ref l) (upd H l (.tup ys))) ∨ (SqT Γ.K H p ys ∧ Q (.ref p) H))) bTup := by
  intro Z σ ρ H st xs vs Q hS rl h
  unfold bTup at h
  split at h
  · rename_i x
    obtain ⟨v, _, rfl, rv, rfl⟩ := rl
    cases e : seqOf st x with
    | none => rw [e] at h; exact h.elim
    | some ws =>
      simp only [e] at h
      obtain ⟨t, a, us, rfl, hq, rl, _⟩ := seqOf_rep hS rv e
      refine ⟨a, us, rfl, ?_⟩
      cases t
      · exact .inl ⟨hq, fun l hl => h _ ρ _ (hS.free hl) (.free hl) ⟨l, us, rfl, .of upd_same, rl.ext (.free hl)⟩⟩
      · exact .inr ⟨hq, h _ ρ H hS .refl ⟨a, us, rfl, hq, rl⟩⟩
  · exact h.elim
theorem l_list {x : Str} (hx : x = "list" := by rfl) (hK : X.K = Γ.K) (hm : X.mg x = none) (ha : PE X e (rd Γ Z α)) (hv : bootBuiltins x = some (.type "list") := by decide +kernel) (hg : Gl X x := by rfl) (hn : x ≠ "__name__" := by decide) (hdb : (x == ("__debug__" : Str)) = false := by decide)
    (hs : starEach [e] X.env = (false, eval e X.env) :: starEach [] X.env := by rfl) (hpl : (backTo pos (starEach [] X.env)).any (·.1) = false := by rfl) : PE X (.Call (.Name x p) [e] [] pos) (rdL Γ Z (lList α)) := by
  refine PE.imp (pe_callTy call_list_of hg hm hv (pa_cons ha pa_nil hs) hn hdb hs hpl) ?_
  rintro σ H Q ⟨ρ, env, st, hS, hE, hp⟩
  refine ⟨ρ, env, st, hS, hE, (Post.bindL hS hp).mono ?_⟩
  rintro v H1 ⟨w, s1, ρ1, e1, hS1, x1, r1, h1⟩
  cases e2 : seqOf s1 w with
  | none => rw [e2] at h1; exact h1.elim
  | some ws =>
    simp only [e2] at h1
    obtain ⟨t, a, us, rfl, hq, rl, _⟩ := seqOf_rep hS1 r1 e2
    refine ⟨a, us, rfl, ?_, fun l hl => h1 l us ρ1 _ (Fresh.of hS1 hl rl)⟩
    rw [hK]
    cases t
    · exact .inl hq
    · exact .inr hq
/-- isinstance(x, T) -/
theorem tuple_ty {H : Hp} {a : Addr} {vs : List V} (h : SqT Γ.K H a vs) : TyX Γ.K H (.ref a) (.type "tuple") := by
  rcases h with (h | ⟨o, h⟩) | ⟨o, its, n, h1, h2, _⟩
  · exact .base (.tup h)
  · exact .fTuple h
  · exact .kTuple h1 h2
theorem ty_x {ρ : Pl} {H : Hp} {st : Store} {w : W} {v : V} {t : String} (hS : RelS Γ ρ H st) (r : RepV Γ ρ H w v) (e : tyOf st w = some t) : TyX Γ.K H v (.type t) := by
  unfold tyOf at e
  cases w with
  | non => cases e; cases r; exact .base .non
  | bl b => cases e; cases r; exact .base (.bl b)
  | int i => cases e; cases r; exact .base (.int i)
  | str s => cases e; obtain ⟨x, rfl, _⟩ := r; exact .base (.str x)
  | tup ws => cases e; obtain ⟨a, vs, rfl, h, _⟩ := r; exact tuple_ty h
  | lst ws => cases e; obtain ⟨a, vs, rfl, h, _⟩ := r; exact .base (.lst h.1)
  | ro ws => cases e
  | exv _ _ _ _ => cases e
  | rng _ _ => cases e
  | dctP _ _ => cases e
  | dct _ _ => cases e
  | ob _ _ _ => cases e
  | loc n =>
    simp only at e
    obtain ⟨a, rfl, ha⟩ := r
    cases e1 : st[n]? with
    | none => rw [e1] at e; cases e
    | some cl =>
      rw [e1] at e
      cases cl with
      | lst us => cases e; obtain ⟨vs, ob, rl⟩ := hS.at_ n _ a e1 ha; exact .base (.lst ob)
      | dict _ => cases e
      | obj _ _ => cases e
      | dictP _ => cases e
      | gone => cases e
theorem kit_all (t T : String) (ht : t ∈ ["NoneType", "bool", "int", "str", "tuple", "list"]) (hT : T ∈ ["bool", "int", "str", "tuple", "list"]) : kitB t T = some (isT t T) := by
  simp only [List.mem_cons, List.not_mem_nil, or_false] at ht hT
  rcases ht with rfl | rfl | rfl | rfl | rfl | rfl <;> rcases hT with rfl | rfl | rfl | rfl | rfl <;> decide +kernel
theorem tyOf_mem {st : Store} {w : W} {t : String} (e : tyOf st w = some t) : t ∈ ["NoneType", "bool", "int", "str", "tuple", "list"] := by
  unfold tyOf at e
  cases w with
  | loc n =>
    simp only at e
    cases e1 : st[n]? with
    | none => rw [e1] at e; cases e
    | some cl => rw [e1] at e; cases cl <;> cases e; simp
  | ro _ => cases e
  | exv _ _ _ _ => cases e
  | rng _ _ => cases e
  | dctP _ _ => cases e
  | dct _ _ => cases e
  | ob _ _ _ => cases e
  | _ => cases e; simp
theorem i_isi {T : String} {x tx : Str} {tpos : Pos} (hx : x = "isinstance" := by rfl) (hK : X.K = Γ.K) (hm : X.mg x = none) (hmT : X.mg tx = none) (ha : PE X e (rd Γ Z α)) (hT : T ∈ ["bool", "int", "str", "tuple", "list"] := by decide) (hvT : bootBuiltins tx = some (.type T) := by decide +kernel) (hgT : Gl X tx := by rfl) (hnT : tx ≠ "__name__" := by decide) (hdT : (tx == ("__debug__" : Str)) = false := by decide)
    (hv : bootBuiltins x = some (.builtin "isinstance") := by decide +kernel) (hg : Gl X x := by rfl) (hn : x ≠ "__name__" := by decide) (hdb : (x == ("__debug__" : Str)) = false := by decide)
    (hs : starEach [e, .Name tx tpos] X.env = (false, eval e X.env) :: starEach [.Name tx tpos] X.env := by rfl) (hs2 : starEach [.Name tx tpos] X.env = (false, eval (.Name tx tpos) X.env) :: starEach [] X.env := by rfl) (hpl : (backTo pos (starEach [.Name tx tpos] X.env)).any (·.1) = false := by rfl) :
    PE X (.Call (.Name x p) [e, .Name tx tpos] [] pos) (rd Γ Z (eIsi T α)) := by
  refine PE.imp (pe_callB call_isi hg hm hv (pa_cons ha (pa_cons (pe_bltn (v := .ty T) hgT hmT hvT rfl hnT hdT) pa_nil hs2) hs) hn hdb hs hpl) ?_
  rintro σ H Q ⟨ρ, env, st, hS, hE, hp⟩
  refine ⟨ρ, env, st, hS, hE, (Post.bind hp).mono ?_⟩
  rintro v H1 ⟨w, s1, ρ1, e1, hS1, x1, r1, h1⟩
  cases e2 : tyOf s1 w with
  | none => rw [e2] at h1; exact h1.elim
  | some t =>
    simp only [e2] at h1
    refine ⟨v, .ty T, .type t, .type T, isT t T, rfl, .ty T, by rw [hK]; exact ty_x hS1 r1 e2, kit_ty (kit_all t T (tyOf_mem e2) hT), h1 _ ρ1 H1 hS1 .refl rfl⟩
theorem i_bits {apos : Pos} (ho : PE X o (rd Γ Z α)) (h1 : attributeBase o "bit_length" X.env (eval o X.env) = eval o X.env := by rfl) (h2 : (apos.endLine == pos.line) = true := by rfl) : PE X (.Call (.Attribute o "bit_length" apos) [] [] pos) (rd Γ Z (eBits α)) := by
  refine PE.imp (pe_bits ho h1 h2) ?_
  rintro σ H Q ⟨ρ, env, st, hS, hE, hp⟩
  refine ⟨ρ, env, st, hS, hE, (Post.bind hp).mono ?_⟩
  rintro v H1 ⟨w, s1, ρ1, e1, hS1, x1, r1, h1⟩
  cases w with
  | int i =>
    cases r1
    have e : Builtin.Int.intBits i = bitsN i := by
      unfold Builtin.Int.intBits bitsN
      by_cases h : i = 0 <;> simp [h]
    exact ⟨i, rfl, by rw [e]; exact h1 _ ρ1 H1 hS1 .refl rfl⟩
  | _ => exact h1.elim
/-! ### methods of built-in classes by values -/
def SemM (Γ : Gm) (r : V → List V → Hp → VK → Prop) (f : W → List W → Store → R W) : Prop := ∀ (Z : WX) (σ : L2.St) (ρ : Pl) (H : Hp) (st : Store) (x : W) (xs : List W) (xv : V) (vs : List V) (Q : VK), RelS Γ ρ H st → RepV Γ ρ H x xv → RepL Γ ρ H xs vs → Post Γ (RepV Γ) Z σ ρ H Q (f x xs st) → r xv vs H Q
theorem tyM_tyV {ρ : Pl} {H : Hp} {st : Store} {T : String} {x : W} {v : V} (hS : RelS Γ ρ H st) (r : RepV Γ ρ H x v) (e : tyM st T x = true) : tyV Γ.K T v H := by
  unfold tyM at e
  cases x with
  | str s => obtain ⟨y, rfl, _⟩ := r; exact eq_of_beq e
  | int i => cases r; exact eq_of_beq e
  | lst ws => obtain ⟨a, vs, rfl, h, _⟩ := r; exact .inl ⟨eq_of_beq e, vs, h.seq⟩
  | ro ws => obtain ⟨a, vs, rfl, h, _⟩ := r; exact .inl ⟨eq_of_beq e, vs, h.seq⟩
  | loc n =>
    obtain ⟨a, rfl, ha⟩ := r
    simp only at e
    cases e1 : st[n]? with
    | none => rw [e1] at e; cases e
    | some cl =>
      rw [e1] at e
      cases cl with
      | lst us => obtain ⟨vs, ob, rl⟩ := hS.at_ n _ a e1 ha; exact .inl ⟨eq_of_beq e, vs, .of ob⟩
      | dict _ => cases e
      | obj _ _ => cases e
      | dictP _ => cases e
      | gone => cases e
  | _ => cases e
theorem i_bm {T id : String} {m : Str} {r : V → List V → Hp → VK → Prop} {f : W → List W → Store → R W} {apos : Pos} (hK : X.K = Γ.K) (pa : PlainAttrs T) (slot : Slot T m id) (hty : typeOf (.builtin id) = pure (.type "method_descriptor")) (hm : MtR X id r) (hf : SemM Γ r f) (ho : PE X o (rd Γ Z α)) (ha : PA X (e :: es) (rdA Γ Z (eArgs αs)))
    (h1 : attributeBase o m X.env (eval o X.env) = eval o X.env := by rfl)
    (h2 : ((backTo pos (starEach (e :: es) X.env)).all (fun x => !x.1) && (backToKw pos (keywordEach [] X.env)).all (fun x => x.1.isSome) && decide ((e :: es).length + ([] : List Keyword).length + (if ([] : List Keyword).isEmpty then 0 else 1) < 30)) = true := by rfl)
    (h3 : (apos.endLine == pos.line) = true := by rfl) (hs : starEach (e :: es) X.env = (false, eval e X.env) :: starEach es X.env := by rfl) (h4 : (backTo pos (starEach es X.env)).any (·.1) = false := by rfl) :
    PE X (.Call (.Attribute o m apos) (e :: es) [] pos) (rd Γ Z (eBm T f α αs)) := by
  refine PE.imp (pe_bm pa slot hty hm ho ha h1 h2 h3 hs h4) ?_
  rintro σ H Q ⟨ρ, env, st, hS, hE, hp⟩
  refine ⟨ρ, env, st, hS, hE, (Post.bind hp).mono ?_⟩
  rintro v H1 ⟨w, s1, ρ1, e1, hS1, x1, r1, g1⟩
  split at g1
  · rename_i ty
    refine ⟨by rw [hK]; exact tyM_tyV hS1 r1 ty, ρ1, env, s1, hS1, hE.ext x1, (Post.bind g1).mono ?_⟩
    rintro u H2 ⟨us, s2, ρ2, e2, hS2, x2, r2, g2⟩
    exact hf Z σ ρ2 H2 s2 w us v u Q hS2 (r1.ext x2) r2 g2
  · exact g1.elim
theorem i_bm0 {T id : String} {m : Str} {r : V → List V → Hp → VK → Prop} {f : W → List W → Store → R W} {apos : Pos} (hK : X.K = Γ.K) (pa : PlainAttrs T) (slot : Slot T m id) (hty : typeOf (.builtin id) = pure (.type "method_descriptor")) (hm : MtR X id r) (hf : SemM Γ r f) (ho : PE X o (rd Γ Z α))
    (h1 : attributeBase o m X.env (eval o X.env) = eval o X.env := by rfl) (h3 : (apos.endLine == pos.line) = true := by rfl) : PE X (.Call (.Attribute o m apos) [] [] pos) (rd Γ Z (eBm T f α [])) := by
  refine PE.imp (pe_bm0 pa slot hty hm ho h1 h3) ?_
  rintro σ H Q ⟨ρ, env, st, hS, hE, hp⟩
  refine ⟨ρ, env, st, hS, hE, (Post.bind hp).mono ?_⟩
  rintro v H1 ⟨w, s1, ρ1, e1, hS1, x1, r1, g1⟩
  split at g1
  · rename_i ty
    exact ⟨by rw [hK]; exact tyM_tyV hS1 r1 ty, hf Z σ ρ1 H1 s1 w [] v [] Q hS1 r1 .nil g1⟩
  · exact g1.elim
theorem sem_app : SemM Γ rAppend mApp := by
  intro Z σ ρ H st x xs xv vs Q hS rx rl h
  unfold mApp at h
  split at h
  · rename_i n y
    obtain ⟨a, rfl, ha⟩ := rx
    obtain ⟨v, _, rfl, rv, rfl⟩ := rl
    cases e1 : st[n]? with
    | none => rw [e1] at h; exact h.elim
    | some cl =>
      rw [e1] at h
      cases cl with
      | lst ws =>
        simp only at h
        obtain ⟨us, ob, rl⟩ := hS.at_ n _ a e1 ha
        split at h
        · rename_i hz
          have hw : Ext Γ ρ H ρ (upd H a (.lst (us ++ [v]))) := Ext.write hS ha e1 ob trivial
          exact ⟨a, us, v, rfl, rfl, ob, by rw [rl.len]; exact hz, h .non ρ _ (hS.write ha e1 ob trivial ⟨_, upd_same, (rl.app (.one rv)).ext hw⟩) hw rfl⟩
        · exact h.elim
      | dict _ => exact h.elim
      | obj _ _ => exact h.elim
      | dictP _ => exact h.elim
      | gone => exact h.elim
  · exact h.elim
/-! ### truth -/
theorem tru_of {ρ : Pl} {H : Hp} {st s : Store} {w : W} {v : V} {k : Bool} (hS : RelS Γ ρ H st) (r : RepV Γ ρ H w v) (e : truth w st = .ok k s) : s = st ∧ TruV Γ.K v H k := by
  have emp : ∀ {ws : List W} {vs : List V}, RepL Γ ρ H ws vs → (!ws.isEmpty) = !vs.isEmpty := fun {ws vs} rl => by
    have := rl.len
    cases ws <;> cases vs <;> simp_all
  unfold truth at e
  cases w with
  | non => cases e; cases r; exact ⟨rfl, rfl⟩
  | bl b => cases e; cases r; exact ⟨rfl, rfl⟩
  | int i => cases e; cases r; exact ⟨rfl, rfl⟩
  | str x =>
    obtain ⟨y, rfl, rfl⟩ := r
    simp only at e
    split at e
    · rename_i hz
      cases e
      refine ⟨rfl, by rw [cps_len]; exact hz, ?_⟩
      rw [cps_len]
      cases y.cps.toList <;> simp <;> omega
    · cases e
  | tup ws => cases e; obtain ⟨a, vs, rfl, t, rl⟩ := r; exact ⟨rfl, .inr (.inl ⟨vs, t, emp rl⟩)⟩
  | lst ws => cases e; obtain ⟨a, vs, rfl, t, rl⟩ := r; exact ⟨rfl, .inl ⟨vs, t.seq, emp rl⟩⟩
  | ro ws => cases e; obtain ⟨a, vs, rfl, t, rl⟩ := r; exact ⟨rfl, .inl ⟨vs, t.seq, emp rl⟩⟩
  | exv _ _ _ _ => cases e
  | rng _ _ => cases e
  | dctP _ _ => cases e
  | dct _ _ => cases e
  | ob _ _ _ => cases e
  | loc n =>
    obtain ⟨a, rfl, ha⟩ := r
    simp only at e
    cases e1 : st[n]? with
    | none => rw [e1] at e; cases e
    | some cl =>
      rw [e1] at e
      cases cl with
      | lst us => cases e; obtain ⟨vs, ob, rl⟩ := hS.at_ n _ a e1 ha; exact ⟨rfl, .inl ⟨vs, .of ob, emp rl⟩⟩
      | dict _ => cases e
      | obj _ _ => cases e
      | dictP _ => cases e
      | gone => cases e
theorem j_tru (hK : X.K = Γ.K) (ha : PE X e (rd Γ Z α)) (he : ∀ whole, isTrue e X.env whole = (do let v ← whole; standAt e.pos; holding [v] (truthy v)) := by intro _; rfl) : PT X e (rdT Γ Z (tTru α)) := by
  refine PT.imp (pt_truth ha he) ?_
  rintro σ H Q ⟨ρ, env, st, hS, hE, hp⟩
  refine ⟨ρ, env, st, hS, hE, (Post.bind hp).mono ?_⟩
  rintro v H1 ⟨w, s1, ρ1, e1, hS1, x1, r1, g1⟩
  cases e2 : truth w s1 with
  | exc x s => unfold truth at e2; split at e2 <;> (try split at e2) <;> cases e2
  | stuck => rw [e2] at g1; exact g1.elim
  | ok k s2 =>
    rw [e2] at g1
    obtain ⟨rfl, t⟩ := tru_of hS1 r1 e2
    exact ⟨k, by rw [hK]; exact t, g1 k ρ1 H1 hS1 .refl rfl⟩
end
end M
namespace M
open PySem L2
/-- the end of a law -/
theorem law_end {Γ : Gm} {H : Hp} {a : Addr} {ns : List Int} {f : Fn} (h : ∀ ns : List Int, ns.length ≤ 63 → f [.ro (ns.map W.int)] [] = .ok (.bl true) []) (hl : ns.length ≤ 63) (hS : SqL Γ.K H a (ns.map V.int)) :
    spI Γ 1 f [.ref a] H (fun v _ => v = .bl true) fun _ _ _ => False := by
  refine ⟨rfl, ⟨[], [], []⟩, [], [.ro (ns.map W.int)], ⟨rfl, List.nodup_nil, fun n c a e => by simp at e, fun a ha => by simp at ha, fun n c a e => by simp at e, fun a ha => by simp at ha⟩, ?_, ?_⟩
  · refine .one ⟨a, ns.map V.int, rfl, ?_, ?_⟩
    · rcases hS with h | h
      · exact .inl ⟨h, by simp, by simp⟩
      · exact .inr (.inr h)
    · have go : ∀ l : List Int, RepL Γ ⟨[], [], []⟩ H (l.map W.int) (l.map V.int) := by
        intro l
        induction l with
        | nil => exact rfl
        | cons x r ih => exact ⟨_, _, rfl, rfl, ih⟩
      exact go ns
  · rw [h ns hl]
    intro v ρ' H' _ _ r
    exact r
end M

-- Sound9
set_option Elab.async false
set_option autoImplicit false
set_option linter.all false
set_option maxRecDepth 100000
namespace M
open PySem PySem.W PySem.Spec PySem.Calls PyProof.Rows in
section
variable {prog : Program} {w : World} {A : Around} {E : Value → Shared → Prop} {K : Frag}
/-- e.__class__ of an exception of an own class, whether it has a dict or not -/
theorem exc_class_at {x D : Addr} {ox : Obj} {od : Option Obj} {Q : Option Value → Shared → Prop} {s : Shared}
    (Ca : L2.ExcC K D) (kin : K.In s.heap) (I : InstAt s.heap x ox D od)
    (h : Q (some (.ref D)) { s with toks := s.toks + 1 }) : wpAny (model prog w) A (getAttr? (.ref x) "__class__") Q E s := by
  obtain ⟨dict1, dict2, dict3⟩ := any_some Ca.hd
  have own : (clsIn K D).isSome = true := by rw [dict2]; rfl
  have found : findObj K D od "__class__" = some (.bind (.builtin "getset_descriptor.__get__") (.builtin "object.__class__")) := by
    obtain ⟨cc, hcc⟩ := Option.isSome_iff_exists.mp own
    unfold findObj
    simp [hcc, Ca.ha, Ca.hn, Ca.ht]
  obtain ⟨heap0, gs0, dr0, tk0, os0⟩ := s
  have typ := I.type (M := model prog w)
  have look1 := looks_findIn (M := model prog w) kin Ca.hg
  have look2 := looks_findIn (M := model prog w) kin Ca.hk
  have look3 := looks_find (M := model prog w) kin I found
  have below : Looks (model prog w) heap0 (isInstance (.ref x) (.type "BaseException")) true := typ.andThen (looks_subIn kin Ca.hs)
  have no1 : (Value.builtin "BaseException.__getattribute__" == Value.builtin "object.__getattribute__") = false := by decide +kernel
  have no2 : (onTheHeap (Value.ref D) && Value.builtin "BaseException.__getattribute__" == Value.builtin "object.__getattribute__") = false := by rw [no1]; rfl
  have no3 : (false && onTheHeap (Value.builtin "BaseException.__getattribute__")) = false := rfl
  unfold getAttr? getAttrBy? getAttrBy
  refine wpAny_bind (wpAny_mkText (wpAny_bind (wpAny_attempt (wpAny_holding (wpAny_bind (typ.at ?_))))))
  refine wpAny_bind (look1.at ?_)
  show wpAny _ _ (ite _ _ _) _ _ _
  rw [no2, if_neg Bool.false_ne_true]
  unfold getAttrByItsOwn hookBefore
  refine wpAny_bind ?_
  rw [if_pos (show onTheHeap (Value.ref D) = true from rfl)]
  refine look2.at (wpAny_bind (wpAny_attempt (wpAny_holding ?_)))
  unfold callGetattribute
  rw [no3, if_neg Bool.false_ne_true]
  unfold boundAndCalled
  rw [PySem.F.excAttr_ValueError.ga.bind (.ref x)]
  refine wpAny_bind (wpAny_pure ?_)
  refine wpAny_call (codeAny_call_builtin PySem.F.excAttr_ValueError.ga.plain PySem.F.entry_bexc_ga ?_)
  refine @check_slot (model prog w) _ _ ⟨heap0, gs0, dr0, tk0 + 1, os0⟩ "BaseException.__getattribute__" "BaseException" "__getattribute__" (.ref x) [.str "__class__" tk0] [] _
    (by decide +kernel) (by decide +kernel) below (PySem.F.args_bexc_ga (.ref x) (.str "__class__" tk0)) ?_
  unfold Builtin.«object.__getattribute__»
  refine wpAny_bind (wpAny_of_eq (a := ((Value.ref x : Value), [Value.str "__class__" tk0]))
    (by first | rfl | (simp only [slotArgs]; rfl)) ?_)
  refine wpAny_bind (wpAny_pure (wpAny_bind (typ.at (wpAny_bind (look3.at ?_)))))
  refine wpAny_bind (wpAny_holding (wpAny_call (class_get (s := ⟨heap0, gs0, dr0, tk0 + 1, os0⟩) (ox := ox) (od := od) kin I Ca.hm ?_)))
  refine wpAny_pure ?_
  show wpAny _ _ (handedOut (.ref D)) _ _ _
  rw [handedOut_of (v := .ref D) rfl]
  first
    | exact wpAny_pure (wpAny_pure h)
    | exact wpAny_pure h
    | exact wpAny_pure (wpAny_bind (wpAny_pure (wpAny_pure h)))
theorem exc_kit {x D : Addr} {ox : Obj} {od : Option Obj} (Ca : L2.ExcC K D) : KitX K (.ref x) (.ref D) (fun h => InstAt h x ox D od) := by
  obtain ⟨dict1, dict2, dict3⟩ := any_some Ca.hd
  unfold clsIn at dict2
  split at dict2
  · rename_i c' d' cd' sl' ho
    refine ⟨fun _ _ _ I => I.type, fun _ _ kin _ => ?_, fun hh tp dd its nn sl kin htp => ?_, fun kin I k => exc_class_at Ca kin I k⟩
    · intro A' Q' E' s' k q
      unfold isType loadHead
      exact wpAny_bind (wpAny_loadPart (k _ _ (kin _ _ ho)) (wpAny_pure q))
    · refine Bool.eq_false_iff.mpr fun q => ?_
      have e : D = tp := Value.ref.inj (beq_iff_eq.mp q)
      subst e
      have z := (kin _ _ ho).symm.trans htp
      cases z
  · cases dict2
end
open PySem PySem.Spec PyProof.Rows L2 in
theorem call_isX {X : Cx} {a D : Addr} {oe : Obj} {d : Option Addr} {pn : List (Addr × Obj)} (C : ExcC X.K D) (hz : Zc (.ref D) d oe) (hf : ∃ vs, oe.data = .fields vs) (hd : ∀ (pins : List (Addr × Obj)) (s : Shared) (σ : L2.St) (H : Hp) dd, Inv (X.suite a ((a, oe) :: pn)) pins σ H s → d = some dd → (∃ fs, H dd = some (.xd fs)) → ∃ od, s.heap.get? dd = some od) :
    CallR (X.suite a ((a, oe) :: pn)) (.builtin "isinstance") (fun xs H Q => ∃ (c : V) (cv : Value) (b : Bool), xs = [.ref a, c] ∧ (∀ dd, d = some dd → ∃ fs, H dd = some (.xd fs)) ∧ (∀ u, RelV c u → u = cv) ∧ PySem.W.kitOne X.K (.ref D) cv = some b ∧ Q (.bl b) H) := by
  intro pins s σ H xs us Q I r h
  obtain ⟨c, cv, b, rfl, hx, hcv, e, q⟩ := h
  cases r with
  | cons rx rr =>
    cases rr with
    | cons rt rr =>
      cases rr
      cases rx
      have ec := hcv _ rt
      subst ec
      obtain ⟨hget, _⟩ := I.pin (a, oe) (List.mem_append.mpr (.inl List.mem_cons_self))
      obtain ⟨vs, hv⟩ := hf
      have notc : PySem.W.notCls oe = true := by unfold PySem.W.notCls; rw [hv]
      cases d with
      | none =>
        have J : PySem.W.InstAt s.heap a oe D none := ⟨hget, hz.1, notc, by rw [hz.2]; trivial⟩
        exact PySem.W.kia_one (exc_kit C) I.kIn J e (fun z => nomatch z) fun tk => ⟨.bl b, H, I.kept (t' := tk) fun _ _ z => z, rfl, q⟩
      | some dd =>
        obtain ⟨od, ho⟩ := hd pins s σ H dd I rfl (hx dd rfl)
        have J : PySem.W.InstAt s.heap a oe D (some od) := ⟨hget, hz.1, notc, by rw [hz.2]; exact ho⟩
        exact PySem.W.kia_one (exc_kit C) I.kIn J e (fun z => nomatch z) fun tk => ⟨.bl b, H, I.kept (t' := tk) fun _ _ z => z, rfl, q⟩
open PySem L2
open Classical
section
variable {Γ : Gm} {Z : WX} {X : Cx} {α : IE} {β ς : IS} {body suite : List Stmt} {b₀ : Stmt} {x : Str} {c : Value} {np pos pos' : Pos} {subs : List String}
/-- raise C('..') -/
theorem s_raise {cn : String} {C : Addr} {bmB : List Value} {B newId initId : String} {m : Str} {j : Nat} {p p2 : Pos} (hc : X.calm = true) (tk : Takes X Z) (F : ExcBaseFacts B newId initId bmB) (q : PySem.W.excIn X.K C bmB newId = true) (gC : X.mg x = some (.ref C)) (kC : PySem.W.keepIn X.K (.ref C) = true) (r : Raises X (.ref C))
    (hcl : Γ.cl cn = some (.ref C)) (hg : Gl X x := by rfl) (hdb : (x == ("__debug__" : Str)) = false := by decide) :
    PS X (.Raise (some (.Call (.Name x p) [.Constant (.str m) j p2] [] pos)) none pos') (rdS Γ Z (sRaise cn (eC .non))) := by
  refine PS.imp (ps_raise hc tk (pmk_own F q gC kC r hg hdb)) ?_
  rintro D σ H ⟨ρ, env, st, hS, hE, h⟩
  exact h σ ρ H (.ref C) none hS .refl hE ⟨hcl, rfl⟩
theorem s_try (hs : X.stack = X.env :: X.outer) (hf : X.env.frame = some X.env.locals) (hc : Names X x c) (tk : Takes X Z) (hsub : ∀ k C, Γ.cl k = some C → PySem.W.exmOne X.K C c = some (subs.contains k))
    (hb : ∀ (W : WX) (pn : List (Addr × Obj)) (xe : Value → Shared → Prop), Takes (X.tr pn xe) W → PassesOwn (model X.prog X.w) X.A X.env xe → PSs (X.tr pn xe) body (rdS Γ W β))
    (hsu : ∀ (a : Addr) (oe : Obj) (pn : List (Addr × Obj)), PSs (X.suite a ((a, oe) :: pn)) (b₀ :: suite) (rdS Γ Z0 ς)) :
    PS X (.Try body [.ExceptHandler (some (.Name x np)) none (b₀ :: suite) pos'] [] [] pos) (rdS Γ Z (sTry subs β ς)) := by
  refine PS.imp (ps_try_only (tb := fun W => rdS Γ W β) (ts := fun _ _ _ => rdS Γ Z0 ς) hs hf hc tk hb (fun a oe _ _ pn _ _ => hsu a oe pn)) ?_
  rintro D σ H ⟨ρ, env, st, hS, hE, h⟩
  refine ⟨ρ, env, st, hS, hE, ?_⟩
  unfold sTry at h
  cases e : β env st with
  | nx e1 s1 => rw [e] at h; exact h
  | ret w s1 => rw [e] at h; exact h
  | brk e1 s1 => rw [e] at h; exact h
  | cnt e1 s1 => rw [e] at h; exact h
  | stuck => rw [e] at h; exact h
  | exc z e1 s1 =>
    rw [e] at h
    intro σ' ρ' H' cls d hS' x' hE' rx
    refine ⟨_, hsub _ _ rx.1, fun hb a ha => ⟨ρ', e1, s1, hS', hE', ?_⟩, fun hb => ?_⟩
    · simp only at h
      rw [if_pos hb] at h
      have h := PostS.ext x' h
      cases e2 : ς e1 s1 with
      | exc y e2 s2 => rw [e2] at h; exact h.elim
      | nx e1 s1 => rw [e2] at h; exact h
      | ret w s1 => rw [e2] at h; exact h
      | brk e1 s1 => rw [e2] at h; exact h
      | cnt e1 s1 => rw [e2] at h; exact h
      | stuck => rw [e2] at h; exact h
    · simp only at h
      rw [if_neg (by rw [hb]; simp)] at h
      exact h σ' ρ' H' cls d hS' x' hE' rx
theorem RelE.setN {ρ : Pl} {H : Hp} {env : Env} {σ : L2.St} (h : RelE Γ ρ H env σ) (i : Nat) : RelE Γ ρ H (env.set i none) (σ.set i none) := RelE.wipe h [i]
theorem pss_ex {ι : Type} {P : ι → Prop} {t : ι → TS} {ss : List Stmt} (h : ∀ k, P k → PSs X ss (t k)) : PSs X ss (fun D σ H => ∃ k, P k ∧ t k D σ H) := ⟨fun pins st σ H D I ⟨k, p, q⟩ => (h k p).run pins st σ H D I q⟩
theorem exvW_rep {ρ : Pl} {H : Hp} {st : Store} {z : Ex} {cls : Value} {d : Option Addr} (hS : RelS Γ ρ H st) (rx : RepX Γ ρ H z cls d) (a : Addr) : RepV Γ ρ H (exvW a d z) (.ref a) ∧ d.isSome = z.d.isSome := by
  obtain ⟨c0, d0⟩ := z
  obtain ⟨_, h2⟩ := rx
  unfold exvW
  cases d0 with
  | none =>
    obtain rfl : d = none := h2
    exact ⟨⟨rfl, rfl⟩, rfl⟩
  | some fs =>
    obtain ⟨da, gs, rfl, hd, h3, h4⟩ := h2
    refine ⟨⟨rfl, gs, ⟨hd, .inl fun hm => ?_, fun hm => ?_⟩, by rw [h3, List.map_map]; rfl, h4⟩, rfl⟩
    · obtain ⟨o, ho, mu⟩ := hS.there hm
      have ho : H da = some o := ho
      rw [hd] at ho; cases ho; exact mu
    · obtain ⟨⟨o, ho, mu⟩, _⟩ := hS.offs _ hm
      have ho : H da = some o := ho
      rw [hd] at ho; cases ho; exact mu
theorem s_tryAs {i : Nat} {n : Str} {ς : Nat → Option Nat → String → IS} (hs : X.stack = X.env :: X.outer) (hf : X.env.frame = some X.env.locals) (hN : X.N.Nodup) (hi : X.N[i]? = some n) (hln : X.env.kindOf n = some .local) (hc : Names X x c) (tk : Takes X Z) (hsub : ∀ k C, Γ.cl k = some C → PySem.W.exmOne X.K C c = some (subs.contains k))
    (hb : ∀ (W : WX) (pn : List (Addr × Obj)) (xe : Value → Shared → Prop), Takes (X.tr pn xe) W → PassesOwn (model X.prog X.w) X.A X.env xe → PSs (X.tr pn xe) body (rdS Γ W β))
    (hsu : ∀ (a : Addr) (oe : Obj) (k : String) (C : Value) (d : Option Addr) (pn : List (Addr × Obj)), Γ.cl k = some C → Zc C d oe → (∃ vs, oe.data = .fields vs) → PSs (X.suite a ((a, oe) :: pn)) (b₀ :: suite) (rdS Γ Z0 (ς a d k))) :
    PS X (.Try body [.ExceptHandler (some (.Name x np)) (some n) (b₀ :: suite) pos'] [] [] pos) (rdS Γ Z (sTryAs i subs β ς)) := by
  refine PS.imp (ps_try_as (i := i) (tb := fun W => rdS Γ W β) (ts := fun a cls d D σ H => ∃ k : String, Γ.cl k = some cls ∧ rdS Γ Z0 (ς a d k) D σ H) hs hf hN hi hln hc tk hb (fun a oe cls d pn hz hf => pss_ex fun k hk => hsu a oe k cls d pn hk hz hf)) ?_
  rintro D σ H ⟨ρ, env, st, hS, hE, h⟩
  refine ⟨ρ, env, st, hS, hE, ?_⟩
  unfold sTryAs at h
  cases e : β env st with
  | nx e1 s1 => rw [e] at h; exact h
  | ret w s1 => rw [e] at h; exact h
  | brk e1 s1 => rw [e] at h; exact h
  | cnt e1 s1 => rw [e] at h; exact h
  | stuck => rw [e] at h; exact h
  | exc z e1 s1 =>
    rw [e] at h
    intro σ' ρ' H' cls d hS' x' hE' rx
    refine ⟨_, hsub _ _ rx.1, fun hb a ha => ?_, fun hb => ?_⟩
    · simp only at h
      rw [if_pos hb] at h
      split at h
      · rename_i hall
        refine ⟨z.c, rx.1, ρ', _, s1, hS', hE'.set i (w := exvW a d z) (v := .ref a) (exvW_rep hS' rx a).1, ?_⟩
        rw [← hall a d (exvW_rep hS' rx a).2] at h
        have h := PostS.ext x' h
        cases e2 : ς a d z.c (e1.set i (some (exvW a d z))) s1 with
        | exc y e2 s2 => rw [e2] at h; exact h.elim
        | nx e1 s1 => rw [e2] at h; exact fun σ2 ρ2 H2 a1 b1 c1 => h _ ρ2 H2 a1 b1 (c1.setN i)
        | ret w s1 => rw [e2] at h; exact h
        | brk e1 s1 => rw [e2] at h; exact fun σ2 ρ2 H2 a1 b1 c1 => h _ ρ2 H2 a1 b1 (c1.setN i)
        | cnt e1 s1 => rw [e2] at h; exact fun σ2 ρ2 H2 a1 b1 c1 => h _ ρ2 H2 a1 b1 (c1.setN i)
        | stuck => rw [e2] at h; exact h
      · exact h.elim
    · simp only at h
      rw [if_neg (by rw [hb]; simp)] at h
      exact h σ' ρ' H' cls d hS' x' hE' rx
/-- isinstance(e, C), e the exception that the suite holds -/
theorem i_isE {a : Addr} {oe : Obj} {d : Option Addr} {pn : List (Addr × Obj)} {k : String} {C D : Addr} {e : Expr} {y tx : Str} {p tpos : Pos} (E : ExcC X.K C) (hz : Zc (.ref C) d oe) (hf : ∃ vs, oe.data = .fields vs) (gD : X.mg tx = some (.ref D)) (hki : PySem.W.kitOne X.K (.ref C) (.ref D) = some (subs.contains k))
    (hm : X.mg y = none) (ha : PE (X.suite a ((a, oe) :: pn)) e (rd Γ Z0 α)) (hy : y = "isinstance" := by rfl) (hgT : Gl X tx := by rfl) (hdT : (tx == ("__debug__" : Str)) = false := by decide)
    (hv : bootBuiltins y = some (.builtin "isinstance") := by decide +kernel) (hg : Gl X y := by rfl) (hn : y ≠ "__name__" := by decide) (hdb : (y == ("__debug__" : Str)) = false := by decide)
    (hs : starEach [e, .Name tx tpos] X.env = (false, eval e X.env) :: starEach [.Name tx tpos] X.env := by rfl) (hs2 : starEach [.Name tx tpos] X.env = (false, eval (.Name tx tpos) X.env) :: starEach [] X.env := by rfl) (hpl : (backTo pos (starEach [.Name tx tpos] X.env)).any (·.1) = false := by rfl) :
    PE (X.suite a ((a, oe) :: pn)) (.Call (.Name y p) [e, .Name tx tpos] [] pos) (rd Γ Z0 (eIsE a d k subs α)) := by
  refine PE.imp (pe_callB (call_isX E hz hf (fun pins s σ H dd I _ ⟨fs, hx⟩ => by
    obtain ⟨mA, ⟨od, es, ep, ho, _⟩, _⟩ := I.hok dd _ hx
    exact ⟨od, ho⟩)) hg hm hv (pa_cons ha (pa_cons (pe_glob (v := .ref D) hgT gD rfl hdT) pa_nil hs2) hs) hn hdb hs hpl) ?_
  rintro σ H Q ⟨ρ, env, st, hS, hE, hp⟩
  refine ⟨ρ, env, st, hS, hE, (Post.bind hp).mono ?_⟩
  rintro v H1 ⟨w, s1, ρ1, e1, hS1, x1, r1, h1⟩
  cases w with
  | exv a' c' f' ws' =>
    simp only at h1
    split at h1
    · rename_i hh
      obtain ⟨rfl, rfl, rfl⟩ := hh
      obtain ⟨rfl, r2⟩ := r1
      refine ⟨.ref D, .ref D, _, rfl, fun dd hd => ?_, fun u hu => by cases hu; rfl, hki, h1 _ ρ1 H1 hS1 .refl rfl⟩
      cases f' with
      | none => cases hd
      | some q =>
        obtain ⟨d', ns⟩ := q
        cases hd
        obtain ⟨gs, hv, _⟩ := r2
        exact ⟨gs, hv.1⟩
    · exact h1.elim
  | _ => exact h1.elim
theorem ofString_inj {f n : String} (q : Str.ofString f = Str.ofString n) : f = n := by
  rw [Str.ofString_eq_toList, Str.ofString_eq_toList] at q
  have h : f.toList.map Char.toNat = n.toList.map Char.toNat := by
    have := congrArg (fun s : Str => s.cps.toList) q
    simpa using this
  have h2 : f.toList = n.toList := (List.map_inj_right (f := Char.toNat) (fun x y e => Char.toNat_inj.1 e)).1 h
  exact String.toList_inj.1 h2
theorem lookup_rep {ρ : Pl} {H : Hp} {f : String} {w : W} : ∀ {ns : List String} {ws : List W} {gs : List (Str × V)}, gs.map (·.1) = ns.map Str.ofString → RepL Γ ρ H ws (gs.map (·.2)) → (ns.zip ws).lookup f = some w → ∃ v, gs.lookup (Str.ofString f) = some v ∧ RepV Γ ρ H w v
  | [], ws, gs, _, _, e => by simp at e
  | n :: ns, [], gs, _, _, e => by simp at e
  | n :: ns, u :: ws, [], h, _, _ => by simp at h
  | n :: ns, u :: ws, (g, y) :: gs, h, r, e => by
    simp only [List.map_cons, List.cons.injEq] at h
    obtain ⟨h1, h2⟩ := h
    obtain ⟨v, t, e2, a, b⟩ := r
    simp only [List.map_cons, List.cons.injEq] at e2
    obtain ⟨rfl, rfl⟩ := e2
    simp only [List.zip_cons_cons, List.lookup_cons] at e ⊢
    subst h1
    by_cases hf : f = n
    · subst hf
      simp at e ⊢
      subst e
      exact a
    · have hf2 : (f == n) = false := by simpa using hf
      have hf3 : (Str.ofString f == Str.ofString n) = false := by
        simp only [beq_eq_false_iff_ne, ne_eq]
        intro q
        exact hf (ofString_inj q)
      rw [hf2] at e
      rw [hf3]
      simp only at e ⊢
      exact lookup_rep h2 b e
end
end M

-- Sound10
set_option Elab.async false
set_option autoImplicit false
set_option linter.all false
set_option maxRecDepth 100000
namespace M
open PySem L2
open Classical
section
variable {Γ : Gm}
theorem ofS (s : String) : ((s : Str)).cps.toList = s.toList.map Char.toNat := by
  show (Str.ofString s).cps.toList = _
  rw [Str.ofString_eq_toList]
theorem cr_str {X : Cx} : CallR X (.type "str") (fun xs H Q => (∃ i, xs = [.int i] ∧ i.natAbs.log2 < 1920 ∧ Q (.str (toString i)) H) ∨ ∃ a, xs = [.str a] ∧ Q (.str a) H) := by
  intro pins s σ H xs us Q I r h
  rcases h with h | h
  · exact call_str_int pins s σ H xs us Q I r h
  · exact SkE.call_str_str pins s σ H xs us Q I r h
theorem sem_str : SemC Γ (fun xs H Q => (∃ i, xs = [.int i] ∧ i.natAbs.log2 < 1920 ∧ Q (.str (toString i)) H) ∨ ∃ a, xs = [.str a] ∧ Q (.str a) H) bStr := by
  intro Z σ ρ H st xs vs Q hS rl h
  unfold bStr at h
  split at h
  · obtain ⟨_, _, rfl, rfl, rfl⟩ := rl
    split at h
    · rename_i hz
      exact .inl ⟨_, rfl, hz, h _ ρ H hS .refl ⟨_, rfl, ofS _⟩⟩
    · exact h.elim
  · obtain ⟨_, _, rfl, ⟨x, rfl, rfl⟩, rfl⟩ := rl
    exact .inr ⟨_, rfl, h _ ρ H hS .refl ⟨x, rfl, rfl⟩⟩
  · exact h.elim
theorem sem_isB : SemOp Γ (fun x y H Q => ∃ a b, x = .bl a ∧ y = .bl b ∧ Q (.bl (decide (a = b))) H) opIsB := by
  intro Z σ ρ H st x y xv yv Q hS rx ry h
  unfold opIsB at h
  split at h
  · rename_i a b
    cases rx; cases ry
    exact ⟨a, b, rfl, rfl, h _ ρ H hS .refl (by cases a <;> cases b <;> rfl)⟩
  · exact h.elim
theorem sem_notB : SemOp Γ (fun x y H Q => ∃ a b, x = .bl a ∧ y = .bl b ∧ Q (.bl (!decide (a = b))) H) opNotB := by
  intro Z σ ρ H st x y xv yv Q hS rx ry h
  unfold opNotB at h
  split at h
  · rename_i a b
    cases rx; cases ry
    exact ⟨a, b, rfl, rfl, h _ ρ H hS .refl (by cases a <;> cases b <;> rfl)⟩
  · exact h.elim
theorem RepL.erase {ρ : Pl} {H : Hp} : ∀ {ws : List W} {vs : List V} (i : Nat), RepL Γ ρ H ws vs → RepL Γ ρ H (ws.eraseIdx i) (vs.eraseIdx i)
  | [], _, _, h => by cases h; exact rfl
  | w :: ws, _, 0, h => by obtain ⟨v, r, rfl, a, b⟩ := h; exact b
  | w :: ws, _, i + 1, h => by
    obtain ⟨v, r, rfl, a, b⟩ := h
    exact ⟨v, _, rfl, a, RepL.erase i b⟩
theorem RepL.dropLast {ρ : Pl} {H : Hp} {ws : List W} {vs : List V} (h : RepL Γ ρ H ws vs) : RepL Γ ρ H ws.dropLast vs.dropLast := by
  rw [List.dropLast_eq_take, List.dropLast_eq_take, h.len]
  exact h.take _
theorem ixW_seq {n : Nat} {i : Int} {j : Nat} (e : ixW n i = some j) : seqIndex? i n = some j ∧ j < n := by
  unfold ixW at e
  unfold seqIndex?
  split at e
  · split at e
    · cases e
      rename_i h1 h2
      have h0 : ¬ i < 0 := by omega
      simp only [h0, if_false, h1, h2, decide_true, Bool.and_self, if_true, true_and]
      omega
    · cases e
  · split at e
    · cases e
      rename_i h1 h2
      have h0 : i < 0 := by omega
      have h3 : 0 ≤ i + (n : Int) := by omega
      have h4 : i + (n : Int) < n := by omega
      simp only [h0, if_true, h3, h4, decide_true, Bool.and_self, true_and]
      omega
    · cases e
theorem sem_pop : SemM Γ rPopAt mPop := by
  intro Z σ ρ H st x xs xv vs Q hS rx rl h
  unfold mPop at h
  split at h
  · rename_i n i
    obtain ⟨a, rfl, ha⟩ := rx
    obtain ⟨_, _, rfl, rfl, rfl⟩ := rl
    cases e1 : st[n]? with
    | none => rw [e1] at h; exact h.elim
    | some cl =>
      rw [e1] at h
      cases cl with
      | lst ws =>
        simp only at h
        obtain ⟨us, ob, rl⟩ := hS.at_ n _ a e1 ha
        split at h
        case isFalse => exact h.elim
        rename_i hin
        cases e2 : ixW ws.length i with
        | none => rw [e2] at h; exact h.elim
        | some j =>
          rw [e2] at h
          simp only at h
          obtain ⟨q1, q2⟩ := ixW_seq e2
          cases e3 : ws[j]? with
          | none => rw [e3] at h; exact h.elim
          | some w =>
            rw [e3] at h
            obtain ⟨v, ev, rv⟩ := rl.get e3
            have hw : Ext Γ ρ H ρ (upd H a (.lst (us.eraseIdx j))) := Ext.write hS ha e1 ob trivial
            refine ⟨a, us, i, j, v, rfl, rfl, ob, ?_, ?_, by rw [rl.len]; exact q1, ev, h v ρ _ (hS.write ha e1 ob trivial ⟨_, upd_same, (rl.erase j).ext hw⟩) hw (rv.ext hw)⟩
            · unfold inR at hin; omega
            · unfold inR at hin; omega
      | dict _ => exact h.elim
      | obj _ _ => exact h.elim
      | dictP _ => exact h.elim
      | gone => exact h.elim
  · exact h.elim
theorem sem_pop0 : SemM Γ rPop mPop0 := by
  intro Z σ ρ H st x xs xv vs Q hS rx rl h
  unfold mPop0 at h
  split at h
  · rename_i n
    obtain ⟨a, rfl, ha⟩ := rx
    cases rl
    cases e1 : st[n]? with
    | none => rw [e1] at h; exact h.elim
    | some cl =>
      rw [e1] at h
      cases cl with
      | lst ws =>
        simp only at h
        obtain ⟨us, ob, rl⟩ := hS.at_ n _ a e1 ha
        cases e3 : ws[ws.length - 1]? with
        | none => rw [e3] at h; exact h.elim
        | some w =>
          rw [e3] at h
          obtain ⟨v, ev, rv⟩ := rl.get e3
          have hw : Ext Γ ρ H ρ (upd H a (.lst us.dropLast)) := Ext.write hS ha e1 ob trivial
          exact ⟨a, us, v, rfl, rfl, ob, by rw [rl.len]; exact ev, h v ρ _ (hS.write ha e1 ob trivial ⟨_, upd_same, rl.dropLast.ext hw⟩) hw (rv.ext hw)⟩
      | dict _ => exact h.elim
      | obj _ _ => exact h.elim
      | dictP _ => exact h.elim
      | gone => exact h.elim
  · exact h.elim
/-! the classes of a text, by their names -/
def clOf : List (String × Addr) → String → Option Value
  | [], _ => none
  | (s, a) :: r, k => if k = s then some (.ref a) else clOf r k
def allC (P : String → Addr → Prop) : List (String × Addr) → Prop
  | [] => True
  | (s, a) :: r => P s a ∧ allC P r
theorem cl_all {P : String → Addr → Prop} {k : String} {C : Value} : ∀ {l : List (String × Addr)}, clOf l k = some C → allC P l → ∃ a, C = .ref a ∧ P k a
  | [], h, _ => by cases h
  | (s, a) :: r, h, ⟨p, q⟩ => by
    unfold clOf at h
    split at h
    · rename_i e
      cases h; subst e
      exact ⟨a, rfl, p⟩
    · exact cl_all h q
end
end M

-- Sound11
set_option Elab.async false
set_option autoImplicit false
set_option linter.all false
set_option maxRecDepth 100000
namespace M
open PySem L2
section
variable {Γ : Gm} {Z : WX} {X : Cx} {a b c e o : Expr} {es : List Expr} {pos p tp : Pos} {α β δ : IE} {αs : List IE}
/-! ### what stops changing -/
def Pl.freeze (ρ : Pl) (a : Addr) : Pl := ⟨ρ.at_, ρ.off, a :: ρ.fz⟩
theorem Ext.freeze {ρ : Pl} {H : Hp} {q : Addr} : Ext Γ ρ H (ρ.freeze q) H := ⟨fun _ _ h => h, fun _ _ h => h, fun _ _ h n => ⟨h, n.imp id fun n => List.mem_cons_of_mem _ n⟩, rfl⟩
theorem RelS.freeze {ρ : Pl} {H : Hp} {st : Store} {n : Nat} {d : Cell} {q : Addr} (h : RelS Γ ρ H st) (hn : ρ.at_[n]? = some q) (e : st[n]? = some d) : RelS Γ (ρ.freeze q) H (st.set n .gone) := by
  have hl : n < st.length := (List.getElem?_eq_some_iff.mp e).1
  have hp : q ∈ ρ.at_ := List.mem_of_getElem? hn
  refine ⟨by simp [Pl.freeze, h.len], h.nd, fun m c b e1 e2 => ?_, fun b hb => h.offs b hb, fun m c b e1 e2 => ?_, fun b hb => ?_⟩
  · by_cases hmn : n = m
    · subst hmn
      have e2 : ρ.at_[n]? = some b := e2
      rw [hn] at e2; cases e2
      rw [List.getElem?_set_self hl] at e1; cases e1
      exact h.there hp
    · rw [List.getElem?_set_ne hmn] at e1
      exact (h.at_ m c b e1 e2).ext (Ext.freeze (q := q)).zero rfl
  · have e2 : ρ.at_[m]? = some b := e2
    by_cases hmn : n = m
    · subst hmn
      rw [hn] at e2; cases e2
      rw [List.getElem?_set_self hl] at e1; cases e1
      exact ⟨fun _ => rfl, fun _ => List.mem_cons_self ..⟩
    · rw [List.getElem?_set_ne hmn] at e1
      have nb : b ≠ q := by
        rintro rfl
        exact hmn (nd_ix h.nd hn e2)
      rw [← h.fz m c b e1 e2]
      show b ∈ q :: ρ.fz ↔ _
      simp [nb]
  · rcases List.mem_cons.1 hb with rfl | hb
    · exact hp
    · exact h.fzs b hb
theorem i_frz (h : PE X e (rd Γ Z α)) : PE X e (rd Γ Z (eFrz α)) := by
  refine PE.imp h ?_
  rintro σ H Q ⟨ρ, env, st, hS, hE, hp⟩
  refine ⟨ρ, env, st, hS, hE, (Post.bind hp).mono ?_⟩
  rintro v H1 ⟨w, s1, ρ1, e1, hS1, x1, r1, g⟩
  cases w with
  | loc n =>
    simp only [frzOp] at g
    obtain ⟨q, rfl, hq⟩ := r1
    cases e2 : s1[n]? with
    | none => rw [e2] at g; exact g.elim
    | some cl =>
      rw [e2] at g
      have nf : q ∉ ρ1.off := fun z => (hS1.offs q z).2 (List.mem_of_getElem? hq)
      have zz : (q ∉ (ρ1.freeze q).at_ ∨ q ∈ (ρ1.freeze q).fz) := .inr (List.mem_cons_self ..)
      have fx : Ext Γ ρ1 H1 (ρ1.freeze q) H1 := Ext.freeze
      have cr := hS1.at_ n _ q e2 hq
      cases cl with
      | lst ws =>
        obtain ⟨vs, ob, rl⟩ := cr
        exact g (.ref q) (ρ1.freeze q) H1 (hS1.freeze hq e2) fx ⟨q, vs, rfl, ⟨ob, zz, nf⟩, rl.ext fx⟩
      | dict kvs =>
        obtain ⟨vs, ob, k, rl⟩ := cr
        exact g (.ref q) (ρ1.freeze q) H1 (hS1.freeze hq e2) fx ⟨q, vs, rfl, ⟨ob, zz, nf⟩, k, rl.ext fx⟩
      | dictP kvs =>
        obtain ⟨xs, us, ob, e2, e3, r1, r2⟩ := cr
        exact g (.ref q) (ρ1.freeze q) H1 (hS1.freeze hq ‹_›) fx ⟨q, xs, us, rfl, ⟨ob, zz, nf⟩, e2, e3, r1.ext fx, r2.ext fx⟩
      | obj c fs =>
        obtain ⟨C, dx, gs, c1, ob, k, rl⟩ := cr
        exact g (.ref q) (ρ1.freeze q) H1 (hS1.freeze hq e2) fx ⟨q, C, dx, gs, rfl, c1, ⟨ob, zz, nf⟩, by rw [k, List.map_map]; rfl, rl.ext fx⟩
      | gone => exact g.elim
  | _ => exact g v ρ1 H1 hS1 .refl r1
/-! ### constants of a module -/
theorem i_gint {x : Str} {n : Int} {u : Value} (hm : X.mg x = some u) (hu : ∃ t, u = .int n t) (hg : Gl X x := by rfl) (hd : (x == ("__debug__" : Str)) = false := by decide) : PE X (.Name x pos) (rd Γ Z (eC (.int n))) :=
  PE.imp (pe_glob (v := V.int n) hg hm hu hd) fun _ _ _ h => rd_c (w := .int n) (v := .int n) (fun _ _ => rfl) h
/-! ### name op= e -/
theorem s_aug {i : Nat} {x : Str} {pos' : Pos} {op : Operator} {g : Int → Int → Int} (hN : X.N.Nodup) (ho : PIp X op (ipI g)) (he : PE X e (rd Γ Z α)) (hi : X.N[i]? = some x := by rfl) (hx : Loc X.env.scope x := by first | exact .inl rfl | exact .inr rfl)
    (hf : X.fn x = true ∨ X.env.scope.names.lookup x = some .local := by first | exact .inl rfl | exact .inr rfl) : PS X (.AugAssign (.Name x pos') op e pos) (rdS Γ Z (sSet i (eOp (opAugI g) (eVar i) α))) := by
  refine PS.imp (ps_aug hN hi hx he ho hf) ?_
  rintro D σ H ⟨ρ, env, st, hS, hE, h⟩
  simp only [sSet, eOp, eVar] at h
  cases e1 : env[i]? with
  | none => rw [e1] at h; exact h.elim
  | some ow =>
    rw [e1] at h
    cases ow with
    | none => exact h.elim
    | some w =>
      simp only [bind_ok] at h
      obtain ⟨v, ev, rv⟩ := hE.at_ i w e1
      refine ⟨v, ev, ρ, env, st, hS, hE, ?_⟩
      cases e2 : α env st with
      | exc x s => rw [e2] at h; exact fun ρ' H' c d a y r => h σ ρ' H' c d a y (hE.ext y) r
      | stuck => rw [e2] at h; exact h
      | ok y s1 =>
        rw [e2] at h
        simp only [bind_ok, opAugI, opI] at h
        intro yv ρ1 H1 hS1 x1 ry
        split at h
        · rename_i i1 j1 heq
          revert heq
          cases w <;> cases y <;> simp only [reduceCtorEq, false_implies, R.ok.injEq, W.int.injEq, and_imp] at *
          intro q1 q2
          subst q1; subst q2
          cases rv; cases ry
          exact ⟨_, _, rfl, rfl, h _ ρ1 H1 hS1 x1 ((hE.ext x1).set i rfl)⟩
        · rename_i z1 s2 heq
          cases w <;> cases y <;> simp at heq
        · exact h.elim
/-! ### built-in functions of lists -/
theorem ints_V {ρ : Pl} {H : Hp} : ∀ {ws : List W} {vs : List V} {ns : List Int}, RepL Γ ρ H ws vs → intsOf ws = some ns → vs = ns.map V.int
  | [], _, _, h, e => by cases h; cases e; rfl
  | w :: ws, _, _, h, e => by
    obtain ⟨v, r, rfl, a, b⟩ := h
    cases w <;> simp [intsOf] at e
    obtain ⟨ns, e1, rfl⟩ := e
    cases a
    rw [ints_V b e1]; rfl
theorem bls_V {ρ : Pl} {H : Hp} : ∀ {ws : List W} {vs : List V} {ns : List Bool}, RepL Γ ρ H ws vs → blsOf ws = some ns → vs = ns.map V.bl
  | [], _, _, h, e => by cases h; cases e; rfl
  | w :: ws, _, _, h, e => by
    obtain ⟨v, r, rfl, a, b⟩ := h
    cases w <;> simp [blsOf] at e
    obtain ⟨ns, e1, rfl⟩ := e
    cases a
    rw [bls_V b e1]; rfl
/-- a list's items, by value or of the store -/
theorem lst_sq {ρ : Pl} {H : Hp} {st : Store} {w : W} {v : V} {ws : List W} (hS : RelS Γ ρ H st) (r : RepV Γ ρ H w v) (e : lstOf st w = some ws) : ∃ a vs, v = .ref a ∧ SqL Γ.K H a vs ∧ RepL Γ ρ H ws vs := by
  obtain ⟨a, vs, rfl, ob, rl⟩ := lstOf_ob hS r e
  exact ⟨a, vs, rfl, .of ob, rl⟩
theorem on_ints {ρ : Pl} {H : Hp} {st : Store} {xs : List W} {vs : List V} {f : List Int → Option W} {Q : VK} {σ : L2.St} (hS : RelS Γ ρ H st) (rl : RepL Γ ρ H xs vs) (h : Post Γ (RepV Γ) Z σ ρ H Q (onInts f xs st)) :
    ∃ a ns w, vs = [.ref a] ∧ SqL Γ.K H a (ns.map V.int) ∧ f ns = some w ∧ Post Γ (RepV Γ) Z σ ρ H Q (.ok w st) := by
  unfold onInts at h
  split at h
  · rename_i x
    obtain ⟨v, _, rfl, rv, rfl⟩ := rl
    cases e1 : lstOf st x with
    | none => rw [e1] at h; exact h.elim
    | some ws =>
      rw [e1, Option.bind_some] at h
      cases e2 : intsOf ws with
      | none => rw [e2] at h; exact h.elim
      | some ns =>
        simp only [e2] at h
        cases e3 : f ns with
        | none => rw [e3] at h; exact h.elim
        | some w =>
          rw [e3] at h
          obtain ⟨a, us, rfl, hq, rl⟩ := lst_sq hS rv e1
          rw [ints_V rl e2] at hq
          exact ⟨a, ns, w, rfl, hq, e3, h⟩
  · exact h.elim
theorem sem_sum : SemC Γ (rSum Γ.K) bSum := by
  intro Z σ ρ H st xs vs Q hS rl h
  obtain ⟨a, ns, w, rfl, hq, e, h⟩ := on_ints hS rl h
  cases e
  exact ⟨a, ns, rfl, hq, h _ ρ H hS .refl rfl⟩
theorem foldmax_mem : ∀ (r : List Int) (i : Int), r.foldl max i ∈ i :: r ∧ ∀ y ∈ i :: r, y ≤ r.foldl max i
  | [], i => by simp
  | j :: r, i => by
    obtain ⟨h1, h2⟩ := foldmax_mem r (max i j)
    simp only [List.foldl_cons]
    refine ⟨?_, fun y hy => ?_⟩
    · rcases List.mem_cons.1 h1 with h | h
      · rw [h]
        by_cases g : i ≤ j
        · rw [Int.max_eq_right g]; simp
        · rw [Int.max_eq_left (by omega)]; simp
      · exact List.mem_cons_of_mem _ (List.mem_cons_of_mem _ h)
    · have hm := h2 (max i j) (by simp)
      rcases List.mem_cons.1 hy with rfl | hy
      · exact Int.le_trans (Int.le_max_left _ _) hm
      · rcases List.mem_cons.1 hy with rfl | hy
        · exact Int.le_trans (Int.le_max_right _ _) hm
        · exact h2 y (List.mem_cons_of_mem _ hy)
theorem foldmin_mem : ∀ (r : List Int) (i : Int), r.foldl min i ∈ i :: r ∧ ∀ y ∈ i :: r, r.foldl min i ≤ y
  | [], i => by simp
  | j :: r, i => by
    obtain ⟨h1, h2⟩ := foldmin_mem r (min i j)
    simp only [List.foldl_cons]
    refine ⟨?_, fun y hy => ?_⟩
    · rcases List.mem_cons.1 h1 with h | h
      · rw [h]
        by_cases g : i ≤ j
        · rw [Int.min_eq_left g]; simp
        · rw [Int.min_eq_right (by omega)]; simp
      · exact List.mem_cons_of_mem _ (List.mem_cons_of_mem _ h)
    · have hm := h2 (min i j) (by simp)
      rcases List.mem_cons.1 hy with rfl | hy
      · exact Int.le_trans hm (Int.min_le_left _ _)
      · rcases List.mem_cons.1 hy with rfl | hy
        · exact Int.le_trans hm (Int.min_le_right _ _)
        · exact h2 y (List.mem_cons_of_mem _ hy)
theorem sem_max : SemC Γ (rMax Γ.K) bMax := by
  intro Z σ ρ H st xs vs Q hS rl h
  obtain ⟨a, ns, w, rfl, hq, e, h⟩ := on_ints hS rl h
  cases ns with
  | nil => cases e
  | cons i r =>
    cases e
    refine ⟨a, i :: r, rfl, hq, by simp, fun m hm hy => ?_⟩
    obtain ⟨f1, f2⟩ := foldmax_mem r i
    have : m = r.foldl max i := Int.le_antisymm (f2 m hm) (hy _ f1)
    rw [this]
    exact h _ ρ H hS .refl rfl
theorem sem_min : SemC Γ (rMin Γ.K) bMin := by
  intro Z σ ρ H st xs vs Q hS rl h
  obtain ⟨a, ns, w, rfl, hq, e, h⟩ := on_ints hS rl h
  cases ns with
  | nil => cases e
  | cons i r =>
    cases e
    refine ⟨a, i :: r, rfl, hq, by simp, fun m hm hy => ?_⟩
    obtain ⟨f1, f2⟩ := foldmin_mem r i
    have : m = r.foldl min i := Int.le_antisymm (hy _ f1) (f2 m hm)
    rw [this]
    exact h _ ρ H hS .refl rfl
theorem sem_max2 : SemC Γ (fun xs H Q => ∃ i j, xs = [.int i, .int j] ∧ Q (.int (if j > i then j else i)) H) bMax2 := by
  intro Z σ ρ H st xs vs Q hS rl h
  unfold bMax2 at h
  split at h
  · rename_i i j
    obtain ⟨_, _, rfl, rfl, _, _, rfl, rfl, rfl⟩ := rl
    have e : (if j > i then j else i) = max i j := by split <;> omega
    exact ⟨i, j, rfl, by rw [e]; exact h _ ρ H hS .refl rfl⟩
  · exact h.elim
theorem sem_min2 : SemC Γ (fun xs H Q => ∃ i j, xs = [.int i, .int j] ∧ Q (.int (if j < i then j else i)) H) bMin2 := by
  intro Z σ ρ H st xs vs Q hS rl h
  unfold bMin2 at h
  split at h
  · rename_i i j
    obtain ⟨_, _, rfl, rfl, _, _, rfl, rfl, rfl⟩ := rl
    have e : (if j < i then j else i) = min i j := by split <;> omega
    exact ⟨i, j, rfl, by rw [e]; exact h _ ρ H hS .refl rfl⟩
  · exact h.elim
theorem sem_abs : SemC Γ (fun xs H Q => ∃ i, xs = [.int i] ∧ Q (.int (if i < 0 then -i else i)) H) bAbs := by
  intro Z σ ρ H st xs vs Q hS rl h
  unfold bAbs at h
  split at h
  · rename_i i
    obtain ⟨_, _, rfl, rfl, rfl⟩ := rl
    have e : (if i < 0 then -i else i) = (i.natAbs : Int) := by split <;> omega
    exact ⟨i, rfl, by rw [e]; exact h _ ρ H hS .refl rfl⟩
  · exact h.elim
theorem sem_all : SemC Γ (rAll Γ.K) bAll := by
  intro Z σ ρ H st xs vs Q hS rl h
  unfold bAll at h
  split at h
  · rename_i x
    obtain ⟨v, _, rfl, rv, rfl⟩ := rl
    cases e1 : lstOf st x with
    | none => rw [e1] at h; exact h.elim
    | some ws =>
      rw [e1, Option.bind_some] at h
      cases e2 : blsOf ws with
      | none => rw [e2] at h; exact h.elim
      | some ns =>
        simp only [e2] at h
        obtain ⟨a, us, rfl, hq, rl⟩ := lst_sq hS rv e1
        rw [bls_V rl e2] at hq
        exact ⟨a, ns, rfl, hq, h _ ρ H hS .refl rfl⟩
  · exact h.elim
theorem sem_any : SemC Γ (rAny Γ.K) bAny := by
  intro Z σ ρ H st xs vs Q hS rl h
  unfold bAny at h
  split at h
  · rename_i x
    obtain ⟨v, _, rfl, rv, rfl⟩ := rl
    cases e1 : lstOf st x with
    | none => rw [e1] at h; exact h.elim
    | some ws =>
      rw [e1, Option.bind_some] at h
      cases e2 : blsOf ws with
      | none => rw [e2] at h; exact h.elim
      | some ns =>
        simp only [e2] at h
        obtain ⟨a, us, rfl, hq, rl⟩ := lst_sq hS rv e1
        rw [bls_V rl e2] at hq
        exact ⟨a, ns, rfl, hq, h _ ρ H hS .refl rfl⟩
  · exact h.elim
/-! sorted(xs) of ints -/
theorem insI_perm (i : Int) : ∀ l : List Int, (insI i l).Perm (i :: l)
  | [] => .refl _
  | j :: r => by
    unfold insI
    split
    · exact .refl _
    · exact ((insI_perm i r).cons j).trans (.swap _ _ _)
theorem insI_sorted (i : Int) : ∀ {l : List Int}, l.Pairwise (· ≤ ·) → (insI i l).Pairwise (· ≤ ·)
  | [], _ => by simp [insI]
  | j :: r, h => by
    obtain ⟨h1, h2⟩ := List.pairwise_cons.1 h
    unfold insI
    split
    · rename_i g
      refine List.pairwise_cons.2 ⟨fun y hy => ?_, h⟩
      rcases List.mem_cons.1 hy with rfl | hy
      · exact g
      · exact Int.le_trans g (h1 y hy)
    · refine List.pairwise_cons.2 ⟨fun y hy => ?_, insI_sorted i h2⟩
      rcases List.mem_cons.1 ((insI_perm i r).mem_iff.1 hy) with rfl | hy
      · omega
      · exact h1 y hy
theorem sortI_perm : ∀ l : List Int, (sortI l).Perm l
  | [] => .refl _
  | i :: r => (insI_perm i _).trans ((sortI_perm r).cons i)
theorem sortI_sorted : ∀ l : List Int, (sortI l).Pairwise (· ≤ ·)
  | [] => .nil
  | i :: r => insI_sorted i (sortI_sorted r)
theorem sorted_uniq : ∀ {l m : List Int}, l.Perm m → l.Pairwise (· ≤ ·) → m.Pairwise (· ≤ ·) → l = m
  | [], m, h, _, _ => (List.nil_perm.1 h).symm
  | i :: r, m, h, hl, hm => by
    cases m with
    | nil => exact (List.perm_nil.1 h)
    | cons j s =>
      obtain ⟨l1, l2⟩ := List.pairwise_cons.1 hl
      obtain ⟨m1, m2⟩ := List.pairwise_cons.1 hm
      have e : i = j := by
        have hi : i ∈ j :: s := h.mem_iff.1 (by simp)
        have hj : j ∈ i :: r := h.mem_iff.2 (by simp)
        rcases List.mem_cons.1 hi with e | hi
        · exact e
        · rcases List.mem_cons.1 hj with e | hj
          · exact e.symm
          · exact Int.le_antisymm (l1 j hj) (m1 i hi)
      subst e
      rw [sorted_uniq ((List.perm_cons i).1 h) l2 m2]
theorem l_sortI {x : Str} (hx : x = "sorted" := by rfl) (hK : X.K = Γ.K) (hm : X.mg x = none) (ha : PE X e (rd Γ Z α)) (hv : bootBuiltins x = some (.builtin "sorted") := by decide +kernel) (hg : Gl X x := by rfl) (hn : x ≠ "__name__" := by decide) (hdb : (x == ("__debug__" : Str)) = false := by decide)
    (hs : starEach [e] X.env = (false, eval e X.env) :: starEach [] X.env := by rfl) (hpl : (backTo pos (starEach [] X.env)).any (·.1) = false := by rfl) : PE X (.Call (.Name x p) [e] [] pos) (rdL Γ Z (lSortI α)) := by
  refine PE.imp (pe_callB cr_sortedI hg hm hv (pa_cons ha pa_nil hs) hn hdb hs hpl) ?_
  rintro σ H Q ⟨ρ, env, st, hS, hE, hp⟩
  refine ⟨ρ, env, st, hS, hE, (Post.bindL hS hp).mono ?_⟩
  rintro v H1 ⟨w, s1, ρ1, e1, hS1, x1, r1, h1⟩
  cases e2 : lstOf s1 w with
  | none => rw [e2] at h1; exact h1.elim
  | some ws =>
    rw [e2, Option.bind_some] at h1
    cases e3 : intsOf ws with
    | none => rw [e3] at h1; exact h1.elim
    | some ns =>
      simp only [e3] at h1
      obtain ⟨a, us, rfl, hq, rl⟩ := lst_sq hS1 r1 e2
      rw [ints_V rl e3] at hq
      refine ⟨a, ns, rfl, by rw [hK]; exact hq, fun ns' l hperm hsrt hl => ?_⟩
      have e : ns' = sortI ns := sorted_uniq (hperm.trans (sortI_perm ns).symm) hsrt (sortI_sorted ns)
      subst e
      have rr : ∀ (l : List Int), RepL Γ ρ1 H1 (l.map W.int) (l.map V.int) := by
        intro l
        induction l with
        | nil => exact rfl
        | cons i l ih => exact .cons rfl ih
      exact h1 l _ ρ1 _ (Fresh.of hS1 hl (rr _))
/-! methods of lists -/
theorem RepL.allFlat {ρ : Pl} {H : Hp} : ∀ {ws : List W} {vs : List V}, RepL Γ ρ H ws vs → ws.all W.flat = true → vs.all flatV = true
  | [], _, h, _ => by cases h; rfl
  | w :: ws, _, h, k => by
    obtain ⟨v, r, rfl, a, b⟩ := h
    simp only [List.all_cons, Bool.and_eq_true] at k
    simp only [List.all_cons, flat_V a k.1, RepL.allFlat b k.2, Bool.and_self]
theorem sem_index : SemM Γ (rIndex Γ.K) mIndex := by
  intro Z σ ρ H st x xs xv vs Q hS rx rl h
  unfold mIndex at h
  split at h
  · rename_i ws y e1
    obtain ⟨v, _, rfl, rv, rfl⟩ := rl
    split at h
    case isFalse => exact h.elim
    rename_i hf
    obtain ⟨fy, fw⟩ := hf
    unfold M.allFlat at fw
    obtain ⟨a, us, rfl, hq, rl⟩ := lst_sq hS rx e1
    cases e2 : idxW ws y with
    | none => rw [e2] at h; exact h.elim
    | some j =>
      rw [e2] at h
      simp only at h
      unfold idxW at e2
      rw [List.findIdx?_eq_some_iff_getElem] at e2
      obtain ⟨hj, hp, hn⟩ := e2
      obtain ⟨z, hz, rz⟩ := rl.get (List.getElem?_eq_getElem hj)
      have fj : (ws[j]).flat = true := List.all_eq_true.1 fw _ (List.getElem_mem hj)
      refine ⟨a, us, v, j, z, rfl, rfl, hq, flat_V rv fy, rl.allFlat fw, hz, ?_, fun m z' hm hz' => ?_, h _ ρ H hS .refl rfl⟩
      · rw [(eqV_W rz rv fj fy).1]; exact hp
      · obtain ⟨w', hw', rw'⟩ := rl.back hz'
        obtain ⟨hm', ew⟩ := List.getElem?_eq_some_iff.mp hw'
        have fm : w'.flat = true := by rw [← ew]; exact List.all_eq_true.1 fw _ (List.getElem_mem hm')
        rw [(eqV_W rw' rv fm fy).1, ← ew]
        have := hn m hm
        simpa using this
  · exact h.elim
theorem sem_ext : SemM Γ rExtend mExt := by
  intro Z σ ρ H st x xs xv vs Q hS rx rl h
  unfold mExt at h
  split at h
  · rename_i n y
    obtain ⟨a, rfl, ha⟩ := rx
    obtain ⟨v, _, rfl, rv, rfl⟩ := rl
    split at h
    · rename_i ws us e1 e2
      obtain ⟨vs, ob, rl⟩ := hS.at_ n _ a e1 ha
      obtain ⟨b, vs2, rfl, ob2, rl2⟩ := lstOf_ob hS rv e2
      split at h
      · rename_i hz
        have hw : Ext Γ ρ H ρ (upd H a (.lst (vs ++ vs2))) := Ext.write hS ha e1 ob trivial
        exact ⟨a, b, vs, vs2, rfl, rfl, ob, ob2, by rw [rl.len, rl2.len]; exact hz, h .non ρ _ (hS.write ha e1 ob trivial ⟨_, upd_same, (rl.app rl2).ext hw⟩) hw rfl⟩
      · exact h.elim
    · exact h.elim
  · exact h.elim
theorem RepL.rev {ρ : Pl} {H : Hp} {ws : List W} {vs : List V} (h : RepL Γ ρ H ws vs) : RepL Γ ρ H ws.reverse vs.reverse := by
  induction ws generalizing vs with
  | nil => cases h; exact rfl
  | cons w ws ih =>
    obtain ⟨v, r, rfl, a, b⟩ := h
    simp only [List.reverse_cons]
    exact (ih b).app (.one a)
theorem sem_rev : SemM Γ rReverse mRev := by
  intro Z σ ρ H st x xs xv vs Q hS rx rl h
  unfold mRev at h
  split at h
  · rename_i n
    obtain ⟨a, rfl, ha⟩ := rx
    cases rl
    split at h
    · rename_i ws e1
      obtain ⟨vs, ob, rl⟩ := hS.at_ n _ a e1 ha
      have hw : Ext Γ ρ H ρ (upd H a (.lst vs.reverse)) := Ext.write hS ha e1 ob trivial
      exact ⟨a, vs, rfl, rfl, ob, h .non ρ _ (hS.write ha e1 ob trivial ⟨_, upd_same, rl.rev.ext hw⟩) hw rfl⟩
    · exact h.elim
  · exact h.elim
theorem sem_ins : SemM Γ (fun x vs H Q => ∃ (l : Addr) (xs : List V) (i : Int) (y : V), x = .ref l ∧ vs = [.int i, y] ∧ H l = some (.lst xs) ∧ xs.length < sizeLine ∧ 0 ≤ i ∧ i < 2 ^ 63 ∧ Q .non (upd H l (.lst (xs.take i.toNat ++ [y] ++ xs.drop i.toNat)))) mIns := by
  intro Z σ ρ H st x xs xv vs Q hS rx rl h
  unfold mIns at h
  split at h
  · rename_i n i y
    obtain ⟨a, rfl, ha⟩ := rx
    obtain ⟨_, _, rfl, rfl, v, _, rfl, rv, rfl⟩ := rl
    split at h
    · rename_i ws e1
      obtain ⟨vs, ob, rl⟩ := hS.at_ n _ a e1 ha
      split at h
      · rename_i hz
        obtain ⟨z1, z2, z3⟩ := hz
        have hw : Ext Γ ρ H ρ (upd H a (.lst (vs.take i.toNat ++ [v] ++ vs.drop i.toNat))) := Ext.write hS ha e1 ob trivial
        exact ⟨a, vs, i, v, rfl, rfl, ob, by rw [rl.len]; exact z1, z2, by unfold inR at z3; omega, h .non ρ _ (hS.write ha e1 ob trivial ⟨_, upd_same, (((rl.take _).app (.one rv)).app (rl.drop _)).ext hw⟩) hw rfl⟩
      · exact h.elim
    · exact h.elim
  · exact h.elim
end
end M

-- Sound12
set_option Elab.async false
set_option autoImplicit false
set_option linter.all false
set_option maxRecDepth 100000
namespace M
open PySem L2
section
variable {Γ : Gm} {Z : WX} {X : Cx} {a b c e o f : Expr} {es : List Expr} {pos p tp : Pos} {α β δ : IE} {αs : List IE}
/-! ### dicts whose keys are ints and texts -/
def DRep (Γ : Gm) (ρ : Pl) (H : Hp) (kws : List (W × W)) (kvs : List (L2.Key × V)) : Prop := kws.map (·.1) = kvs.map (fun p => keyW p.1) ∧ RepL Γ ρ H (kws.map (·.2)) (kvs.map (·.2))
theorem DRep.cons {ρ : Pl} {H : Hp} {p : W × W} {kws : List (W × W)} {kvs : List (L2.Key × V)} (h : DRep Γ ρ H (p :: kws) kvs) : ∃ k v r, kvs = (k, v) :: r ∧ p.1 = keyW k ∧ RepV Γ ρ H p.2 v ∧ DRep Γ ρ H kws r := by
  obtain ⟨h1, h2⟩ := h
  cases kvs with
  | nil => simp at h1
  | cons q r =>
    simp only [List.map_cons, List.cons.injEq] at h1
    obtain ⟨v, r', e, ra, rb⟩ := h2
    simp only [List.map_cons, List.cons.injEq] at e
    obtain ⟨rfl, rfl⟩ := e
    exact ⟨q.1, q.2, r, rfl, h1.1, ra, h1.2, rb⟩
theorem keyW_eq (k l : L2.Key) : keyEq (keyW k) (keyW l) = decide (k = l) := by
  cases k with
  | inl i => cases l with
    | inl j =>
      by_cases e : i = j
      · simp [keyW, keyEq, e]
      · have : ¬ (Sum.inl i : L2.Key) = Sum.inl j := fun z => e (by injection z)
        simp [keyW, keyEq, e, this]
    | inr y =>
      have : ¬ (Sum.inl i : L2.Key) = Sum.inr y := fun z => by injection z
      simp [keyW, keyEq, this]
  | inr x => cases l with
    | inl j =>
      have : ¬ (Sum.inr x : L2.Key) = Sum.inl j := fun z => by injection z
      simp [keyW, keyEq, this]
    | inr y =>
      by_cases e : x = y
      · simp [keyW, keyEq, e]
      · have h1 : ¬ (Sum.inr x : L2.Key) = Sum.inr y := fun z => e (by injection z)
        have h2 : ¬ x.cps.toList = y.cps.toList := fun z => e (by cases x; cases y; congr 1; exact Array.toList_inj.mp z)
        have h3 : ¬ x.cps = y.cps := fun z => h2 (by rw [z])
        simp [keyW, keyEq, h1, h3]
theorem key_V {ρ : Pl} {H : Hp} {y : W} {yv : V} (r : RepV Γ ρ H y yv) (k : keyOk y = true) : ∃ k : L2.Key, yv = kV k ∧ y = keyW k := by
  cases y <;> simp [keyOk] at k
  · cases r; exact ⟨.inl _, rfl, rfl⟩
  · obtain ⟨x, rfl, rfl⟩ := r; exact ⟨.inr x, rfl, rfl⟩
theorem getD_rep {ρ : Pl} {H : Hp} (k : L2.Key) : ∀ {kws : List (W × W)} {kvs : List (L2.Key × V)}, DRep Γ ρ H kws kvs → (∀ w, getD kws (keyW k) = some w → ∃ v, valV kvs k = some v ∧ RepV Γ ρ H w v) ∧ (getD kws (keyW k) = none → valV kvs k = none)
  | [], kvs, h => by
    obtain ⟨h1, _⟩ := h
    cases kvs with
    | nil => exact ⟨fun w e => by simp [getD] at e, fun _ => rfl⟩
    | cons q r => simp at h1
  | p :: kws, kvs, h => by
    obtain ⟨l, v, r, rfl, e, rv, h⟩ := h.cons
    have ih := getD_rep k h
    unfold getD at ih ⊢
    simp only [List.find?_cons, e, keyW_eq]
    by_cases g : l = k
    · simp only [g, decide_true, Option.map_some]
      exact ⟨fun w q => by cases q; exact ⟨v, valV_pos rfl, rv⟩, fun q => by cases q⟩
    · simp only [decide_eq_false g]
      rw [valV_neg (p := (l, v)) g]
      exact ih
theorem any_rep {ρ : Pl} {H : Hp} (k : L2.Key) : ∀ {kws : List (W × W)} {kvs : List (L2.Key × V)}, DRep Γ ρ H kws kvs → (kws.any fun p => keyEq p.1 (keyW k)) = kvs.any fun kv => decide (kv.1 = k)
  | [], kvs, h => by
    obtain ⟨h1, _⟩ := h
    cases kvs with
    | nil => rfl
    | cons q r => simp at h1
  | p :: kws, kvs, h => by
    obtain ⟨l, v, r, rfl, e, rv, h⟩ := h.cons
    simp only [List.any_cons, e, keyW_eq, any_rep k h]
theorem repl_rep {ρ : Pl} {H : Hp} (k : L2.Key) {w : W} {v : V} (rv : RepV Γ ρ H w v) : ∀ {kws : List (W × W)} {kvs : List (L2.Key × V)}, DRep Γ ρ H kws kvs → DRep Γ ρ H (kws.map fun p => if keyEq p.1 (keyW k) = true then (p.1, w) else p) (kvs.map fun kv => if kv.1 = k then (kv.1, v) else kv)
  | [], kvs, h => by
    obtain ⟨h1, _⟩ := h
    cases kvs with
    | nil => exact ⟨rfl, rfl⟩
    | cons q r => simp at h1
  | p :: kws, kvs, h => by
    obtain ⟨l, u, r, rfl, e, ru, h⟩ := h.cons
    obtain ⟨i1, i2⟩ := repl_rep k rv h
    simp only [List.map_cons, e, keyW_eq]
    by_cases g : l = k
    · simp only [g, decide_true, if_true]
      exact ⟨by simp only [List.map_cons, i1], .cons rv i2⟩
    · simp only [decide_eq_false g, Bool.false_eq_true, if_false, if_neg g]
      exact ⟨by simp only [List.map_cons, i1, e], .cons ru i2⟩
theorem putD_rep {ρ : Pl} {H : Hp} (k : L2.Key) {w : W} {v : V} (rv : RepV Γ ρ H w v) {kws : List (W × W)} {kvs : List (L2.Key × V)} (h : DRep Γ ρ H kws kvs) : DRep Γ ρ H (putD kws (keyW k) w) (putK kvs k v) := by
  unfold putD putK
  rw [any_rep k h]
  by_cases g : (kvs.any fun kv => decide (kv.1 = k)) = true
  · rw [if_pos g, if_pos g]; exact repl_rep k rv h
  · rw [if_neg g, if_neg g]
    obtain ⟨h1, h2⟩ := h
    exact ⟨by simp [h1], by simpa using h2.app (.one rv)⟩
theorem DRep.len {ρ : Pl} {H : Hp} {kws : List (W × W)} {kvs : List (L2.Key × V)} (h : DRep Γ ρ H kws kvs) : kvs.length = kws.length := by
  have := congrArg List.length h.1
  simpa using this.symm
theorem DRep.ext0 {ρ ρ' : Pl} {H H' : Hp} {kws : List (W × W)} {kvs : List (L2.Key × V)} (x : Ext0 Γ ρ H ρ' H') (h : DRep Γ ρ H kws kvs) : DRep Γ ρ' H' kws kvs := ⟨h.1, h.2.ext0 x⟩
theorem dct_ob {ρ : Pl} {H : Hp} {st : Store} {x : W} {v : V} {kws : List (W × W)} (hS : RelS Γ ρ H st) (r : RepV Γ ρ H x v) (e : dctOf st x = some kws) : ∃ a kvs, v = .ref a ∧ H a = some (.dK kvs) ∧ DRep Γ ρ H kws kvs := by
  unfold dctOf at e
  cases x with
  | dct ks vs =>
    cases e
    obtain ⟨a, kvs, rfl, ⟨ob, _⟩, rfl, rl⟩ := r
    have hl := rl.len
    simp at hl
    refine ⟨a, kvs, rfl, ob, ?_, ?_⟩
    · rw [List.map_fst_zip (by simp [hl])]
    · rw [List.map_snd_zip (by simp [hl])]; exact rl
  | loc n =>
    obtain ⟨a, rfl, ha⟩ := r
    simp only at e
    cases e1 : st[n]? with
    | none => rw [e1] at e; cases e
    | some cl =>
      rw [e1] at e
      cases cl with
      | dict kvs => cases e; obtain ⟨vs, ob, k, rl⟩ := hS.at_ n _ a e1 ha; exact ⟨a, vs, rfl, ob, k, rl⟩
      | _ => cases e
  | _ => cases e
/-- d[k] -/
theorem i_dx (hu : X.A.units + 1 < cLine) (ha : PE X a (rd Γ Z α)) (hb : PE X b (rd Γ Z β)) (hs : NoSl b := by intro _ _; rfl) : PE X (.Subscript a b pos) (rd Γ Z (eOp opDx α β)) := by
  refine PE.imp (pe_dget hu ha hb hs) ?_
  rintro σ H Q ⟨ρ, env, st, hS, hE, h⟩
  refine ⟨ρ, env, st, hS, hE, (Post.bind h).mono ?_⟩
  rintro v H1 ⟨w, s1, ρ1, e1, hS1, x1, r1, h1⟩
  refine ⟨ρ1, env, s1, hS1, hE.ext x1, (Post.bind h1).mono ?_⟩
  rintro u H2 ⟨w2, s2, ρ2, e2, hS2, x2, r2, h2⟩
  simp only [opDx] at h2
  cases e3 : dctOf s2 w with
  | none => rw [e3] at h2; exact h2.elim
  | some kws =>
    simp only [e3] at h2
    split at h2
    case isFalse => exact h2.elim
    rename_i hk
    obtain ⟨d, kvs, rfl, ob, dr⟩ := dct_ob hS2 (r1.ext x2) e3
    obtain ⟨k, rfl, rfl⟩ := key_V r2 hk
    cases e4 : getD kws (keyW k) with
    | none => rw [e4] at h2; exact h2.elim
    | some z =>
      rw [e4] at h2
      obtain ⟨zv, hz, rz⟩ := (getD_rep k dr).1 z e4
      exact ⟨d, zv, rfl, by rw [← hz]; exact DGet.k ob, h2 _ ρ2 H2 hS2 .refl rz⟩
/-- k in d, k not in d -/
theorem rd_din {neg : Bool} {σ : L2.St} {H : Hp} {Q : VK} (h : rd Γ Z (eOp (opDin neg) α β) σ H Q) : rd Γ Z α σ H fun y H1 => rd Γ Z β σ H1 fun x H2 => ∃ a o, x = .ref a ∧ DGet H2 a y o ∧ Q (.bl (if neg then !o.isSome else o.isSome)) H2 := by
  obtain ⟨ρ, env, st, hS, hE, h⟩ := h
  refine ⟨ρ, env, st, hS, hE, (Post.bind h).mono ?_⟩
  rintro v H1 ⟨w, s1, ρ1, e1, hS1, x1, r1, h1⟩
  refine ⟨ρ1, env, s1, hS1, hE.ext x1, (Post.bind h1).mono ?_⟩
  rintro u H2 ⟨w2, s2, ρ2, e2, hS2, x2, r2, h2⟩
  simp only [opDin] at h2
  cases e3 : dctOf s2 w2 with
  | none => rw [e3] at h2; exact h2.elim
  | some kws =>
    simp only [e3] at h2
    split at h2
    case isFalse => exact h2.elim
    rename_i hk
    obtain ⟨d, kvs, rfl, ob, dr⟩ := dct_ob hS2 r2 e3
    obtain ⟨k, rfl, rfl⟩ := key_V (r1.ext x2) hk
    refine ⟨d, valV kvs k, rfl, DGet.k ob, ?_⟩
    have e : (valV kvs k).isSome = (getD kws (keyW k)).isSome := by
      obtain ⟨g1, g2⟩ := getD_rep k dr
      cases e4 : getD kws (keyW k) with
      | none => rw [g2 e4]; rfl
      | some z => obtain ⟨zv, hz, _⟩ := g1 z e4; rw [hz]; rfl
    rw [e]
    exact h2 _ ρ2 H2 hS2 .refl rfl
theorem i_din (hu : X.A.units + 1 < cLine) (ha : PE X a (rd Γ Z α)) (hb : PE X b (rd Γ Z β)) (hm : behindInMarks .In b = false := by first | exact nobehind _ (by decide) (by decide) | rfl) : PE X (.Compare a [.In] [b] pos) (rd Γ Z (eOp (opDin false) α β)) :=
  PE.imp (pe_cmp (pc_din hu ha hb) hm) fun _ _ _ h => rd_din h
theorem i_dnin (hu : X.A.units + 1 < cLine) (ha : PE X a (rd Γ Z α)) (hb : PE X b (rd Γ Z β)) (hm : behindInMarks .NotIn b = false := by first | exact nobehind _ (by decide) (by decide) | rfl) : PE X (.Compare a [.NotIn] [b] pos) (rd Γ Z (eOp (opDin true) α β)) :=
  PE.imp (pe_cmp (pc_dnotin hu ha hb) hm) fun _ _ _ h => rd_din h
/-- {} -/
theorem i_newD : PE X (.Dict [] [] pos) (rd Γ Z eNewD) := by
  refine PE.imp pe_dnewK ?_
  rintro σ H Q ⟨ρ, env, st, hS, hE, h⟩ q hq
  have r := hS.grow (c := .dict []) hq ⟨[], upd_same, rfl, rfl⟩
  refine h (.ref q) (ρ.add q) _ r (.grow hS hq) ⟨q, rfl, ?_⟩
  show (ρ.at_ ++ [q])[st.length]? = some q
  rw [List.getElem?_append_right (Nat.le_of_eq hS.len), hS.len]
  simp
/-- d[k] = v -/
theorem s_dput {pos' : Pos} {i : Expr} (hu : X.A.units + 1 < cLine) (hv : PE X e (rd Γ Z α)) (ho : PE X o (rd Γ Z β)) (hi : PE X i (rd Γ Z δ)) (hs : swapsWith e (some (.Subscript o i pos')) pos.line X.env = pure false := by rfl) : PS X (.Assign [.Subscript o i pos'] e pos) (rdS Γ Z (sDPut β δ α)) := by
  refine PS.imp (ps_dput hu ho hi hv hs) ?_
  rintro D σ H ⟨ρ, env, st, hS, hE, h⟩
  refine ⟨ρ, env, st, hS, hE, ?_⟩
  unfold M.sDPut at h
  cases e1 : α env st with
  | exc x s => simp only [e1] at h; exact fun ρ' H' c d a y r => h σ ρ' H' c d a y (hE.ext y) r
  | stuck => simp only [e1] at h; exact h
  | ok v s1 =>
    simp only [e1] at h
    intro vv ρ1 H1 hS1 x1 r1
    refine ⟨ρ1, env, s1, hS1, hE.ext x1, ?_⟩
    cases e2 : β env s1 with
    | exc x s => simp only [e2] at h; exact fun ρ' H' c d a y r => h σ ρ' H' c d a (x1.trans y) ((hE.ext x1).ext y) r
    | stuck => simp only [e2] at h; exact h
    | ok x s2 =>
      simp only [e2] at h
      intro xv ρ2 H2 hS2 x2 r2
      refine ⟨ρ2, env, s2, hS2, (hE.ext x1).ext x2, ?_⟩
      cases e3 : δ env s2 with
      | exc x s => simp only [e3] at h; exact fun ρ' H' c d a y r => h σ ρ' H' c d a ((x1.trans x2).trans y) (((hE.ext x1).ext x2).ext y) r
      | stuck => simp only [e3] at h; exact h
      | ok y s3 =>
        simp only [e3] at h
        intro yv ρ3 H3 hS3 x3 r3
        cases e4 : setDx x y v s3 with
        | none => simp only [e4] at h; exact h.elim
        | some s4 =>
          simp only [e4] at h
          unfold setDx at e4
          cases x with
          | loc n =>
            simp only at e4
            obtain ⟨q, rfl, hq⟩ := r2
            have hq3 := x3.pre n q hq
            cases e5 : s3[n]? with
            | none => rw [e5] at e4; cases e4
            | some cl =>
              rw [e5] at e4
              cases cl with
              | dict kws =>
                simp only at e4
                split at e4
                case isFalse => cases e4
                rename_i hk
                cases e4
                obtain ⟨k, rfl, rfl⟩ := key_V r3 hk.1
                obtain ⟨kvs, ob, kk, rl⟩ := hS3.at_ n _ q e5 hq3
                have dr : DRep Γ ρ3 H3 kws kvs := ⟨kk, rl⟩
                have dp := putD_rep k (r1.ext (x2.trans x3)) dr
                have hw : Ext Γ ρ3 H3 ρ3 (upd H3 q (.dK (putK kvs k vv))) := Ext.write hS3 hq3 e5 ob trivial
                refine ⟨q, _, rfl, DPut.k ob (by rw [dr.len]; exact hk.2), ?_⟩
                obtain ⟨d1, d2⟩ := dp
                exact h σ ρ3 _ (hS3.write hq3 e5 ob trivial ⟨_, upd_same, d1, d2.ext hw⟩) (((x1.trans x2).trans x3).trans hw) ((((hE.ext x1).ext x2).ext x3).ext hw)
              | _ => cases e4
          | _ => cases e4
/-- d.get(k), d.get(k, x) -/
theorem i_get1 {apos cpos : Pos} (hu : X.A.units + 1 < cLine) (ho : PE X o (rd Γ Z α)) (hi : PE X e (rd Γ Z β)) (m : M1 X o "get" apos e cpos := by exact ⟨rfl, rfl, rfl, rfl⟩) : PE X (.Call (.Attribute o "get" apos) [e] [] cpos) (rd Γ Z (eGet1 α β)) := by
  refine PE.imp (pe_dget1 hu ho hi m) ?_
  rintro σ H Q ⟨ρ, env, st, hS, hE, h⟩
  refine ⟨ρ, env, st, hS, hE, (Post.bind h).mono ?_⟩
  rintro v H1 ⟨w, s1, ρ1, e1, hS1, x1, r1, h1⟩
  cases e2 : dctOf s1 w with
  | none => rw [e2] at h1; exact h1.elim
  | some kws0 =>
    simp only [e2] at h1
    obtain ⟨d, kvs0, rfl, ob0, _⟩ := dct_ob hS1 r1 e2
    refine ⟨d, rfl, .inl ⟨kvs0, .inl ob0⟩, ρ1, env, s1, hS1, hE.ext x1, (Post.bind h1).mono ?_⟩
    rintro u H2 ⟨w2, s2, ρ2, e3, hS2, x2, r2, h2⟩
    cases e4 : dctOf s2 w with
    | none => rw [e4] at h2; exact h2.elim
    | some kws =>
      simp only [e4] at h2
      split at h2
      case isFalse => exact h2.elim
      rename_i hk
      obtain ⟨d', kvs, e5, ob, dr⟩ := dct_ob hS2 (r1.ext x2) e4
      cases e5
      obtain ⟨k, rfl, rfl⟩ := key_V r2 hk
      refine ⟨valV kvs k, DGet.k ob, ?_⟩
      obtain ⟨g1, g2⟩ := getD_rep k dr
      cases e6 : getD kws (keyW k) with
      | none => rw [g2 e6]; rw [e6] at h2; exact h2 _ ρ2 H2 hS2 .refl rfl
      | some z => obtain ⟨zv, hz, rz⟩ := g1 z e6; rw [hz]; rw [e6] at h2; exact h2 _ ρ2 H2 hS2 .refl rz
theorem i_get2 {apos cpos : Pos} (hu : X.A.units + 1 < cLine) (ho : PE X o (rd Γ Z α)) (hi : PE X e (rd Γ Z β)) (hf : PE X f (rd Γ Z δ)) (m : M2 X o "get" apos e f cpos := by exact ⟨rfl, rfl, rfl, rfl⟩) : PE X (.Call (.Attribute o "get" apos) [e, f] [] cpos) (rd Γ Z (eGet2 α β δ)) := by
  refine PE.imp (pe_dget2 hu ho hi hf m) ?_
  rintro σ H Q ⟨ρ, env, st, hS, hE, h⟩
  refine ⟨ρ, env, st, hS, hE, (Post.bind h).mono ?_⟩
  rintro v H1 ⟨w, s1, ρ1, e1, hS1, x1, r1, h1⟩
  cases e2 : dctOf s1 w with
  | none => rw [e2] at h1; exact h1.elim
  | some kws0 =>
    simp only [e2] at h1
    obtain ⟨d, kvs0, rfl, ob0, _⟩ := dct_ob hS1 r1 e2
    refine ⟨d, rfl, .inl ⟨kvs0, .inl ob0⟩, ρ1, env, s1, hS1, hE.ext x1, (Post.bind h1).mono ?_⟩
    rintro u H2 ⟨w2, s2, ρ2, e3, hS2, x2, r2, h2⟩
    refine ⟨ρ2, env, s2, hS2, (hE.ext x1).ext x2, (Post.bind h2).mono ?_⟩
    rintro y H3 ⟨w3, s3, ρ3, e5, hS3, x3, r3, h3⟩
    cases e4 : dctOf s3 w with
    | none => rw [e4] at h3; exact h3.elim
    | some kws =>
      simp only [e4] at h3
      split at h3
      case isFalse => exact h3.elim
      rename_i hk
      obtain ⟨d', kvs, e5, ob, dr⟩ := dct_ob hS3 ((r1.ext x2).ext x3) e4
      cases e5
      obtain ⟨k, rfl, rfl⟩ := key_V (r2.ext x3) hk
      refine ⟨valV kvs k, DGet.k ob, ?_⟩
      obtain ⟨g1, g2⟩ := getD_rep k dr
      cases e6 : getD kws (keyW k) with
      | none => rw [g2 e6]; rw [e6] at h3; exact h3 _ ρ3 H3 hS3 .refl r3
      | some z => obtain ⟨zv, hz, rz⟩ := g1 z e6; rw [hz]; rw [e6] at h3; exact h3 _ ρ3 H3 hS3 .refl rz
theorem sem_lenD : SemC Γ (fun xs H Q => ∃ a kvs, xs = [V.ref a] ∧ H a = some (.dK kvs) ∧ Q (.int kvs.length) H) bLenD := by
  intro Z σ ρ H st xs vs Q hS rl h
  unfold bLenD at h
  split at h
  · rename_i x
    obtain ⟨v, _, rfl, rv, rfl⟩ := rl
    cases e : dctOf st x with
    | none => rw [e] at h; exact h.elim
    | some kws =>
      simp only [e] at h
      obtain ⟨a, kvs, rfl, ob, dr⟩ := dct_ob hS rv e
      exact ⟨a, kvs, rfl, ob, by rw [dr.len]; exact h _ ρ H hS .refl rfl⟩
  · exact h.elim
end
end M

-- Sound13
set_option Elab.async false
set_option autoImplicit false
set_option linter.all false
set_option maxRecDepth 100000
namespace M
open PySem L2
section
variable {Γ : Gm} {Z : WX} {X : Cx} {a b c e o f kx vx : Expr} {es : List Expr} {pos p tp : Pos} {α β δ κ : IE} {αs : List IE} {τ : IT}
theorem RelS.doneC {ρ : Pl} {H : Hp} {st : Store} {p : Addr} {c : Cell} {off : List Addr} (h : RelS Γ ρ H st) (ho : ρ.off = p :: off) (hn : p ∉ off) (r : CellRep Γ ρ H c p) (hg : c.isGone = false := by rfl) : RelS Γ ⟨ρ.at_ ++ [p], off, ρ.fz⟩ H (st ++ [c]) := by
  have hs : ∀ a, (a ∉ ρ.at_ ∨ a ∈ ρ.fz) → a ∉ ρ.off → (a ∉ (⟨ρ.at_ ++ [p], off, ρ.fz⟩ : Pl).at_ ∨ a ∈ (⟨ρ.at_ ++ [p], off, ρ.fz⟩ : Pl).fz) ∧ a ∉ (⟨ρ.at_ ++ [p], off, ρ.fz⟩ : Pl).off := fun a h1 h2 => by
    rw [ho] at h2
    simp only [List.mem_cons, not_or] at h2
    refine ⟨h1.imp (fun n => ?_) id, h2.2⟩
    simp [n, h2.1]
  have hp : ∀ (m : Nat) a, m < ρ.at_.length → ρ.at_[m]? = some a → (⟨ρ.at_ ++ [p], off, ρ.fz⟩ : Pl).at_[m]? = some a := fun m a l q => by
    show (ρ.at_ ++ [p])[m]? = _
    rw [List.getElem?_append_left l]
    exact q
  have np : p ∉ ρ.at_ := (h.offs p (by rw [ho]; simp)).2
  refine ⟨by simp [h.len], ?_, fun n d b e1 e2 => ?_, fun b hb => ?_, fun n d b e1 e2 => ?_, fun b hb => List.mem_append.2 (.inl (h.fzs b hb))⟩
  · show (ρ.at_ ++ [p]).Nodup
    rw [List.nodup_append]
    exact ⟨h.nd, by simp, fun b hb d hd => by simp at hd; subst hd; rintro rfl; exact np hb⟩
  · rcases add_at e2 with ⟨hn, e2⟩ | ⟨rfl, rfl⟩
    · rw [List.getElem?_append_left (by rw [← h.len]; exact hn)] at e1
      exact (h.at_ n d b e1 e2).cut hp hs (h.at_ n d b e1 e2).bd
    · rw [h.len, List.getElem?_append_right (Nat.le_refl _)] at e1
      simp at e1
      subst e1
      exact r.cut hp hs r.bd
  · obtain ⟨q, n⟩ := h.offs b (by rw [ho]; exact List.mem_cons_of_mem _ hb)
    refine ⟨q, ?_⟩
    show b ∉ ρ.at_ ++ [p]
    simp [n]
    rintro rfl
    exact hn hb
  · rcases add_at e2 with ⟨hn, e2⟩ | ⟨rfl, rfl⟩
    · rw [List.getElem?_append_left (by rw [← h.len]; exact hn)] at e1
      exact h.fz n d b e1 e2
    · rw [h.len, List.getElem?_append_right (Nat.le_refl _)] at e1
      simp at e1
      subst e1
      rw [hg]
      simp
      exact fun z => np (h.fzs _ z)
/-- a new dict at a: the store without it, and with it -/
structure FreshD (Γ : Gm) (ρ : Pl) (H : Hp) (ρ' : Pl) (H' : Hp) (st' : Store) (kws : List (W × W)) (a : Addr) (kvs : List (L2.Key × V)) : Prop where
  new : H a = none
  ob : H' a = some (.dK kvs)
  na : a ∉ ρ'.at_
  no : a ∉ ρ'.off
  rel : RelS Γ ρ' H' st'
  add : RelS Γ (ρ'.add a) H' (st' ++ [.dict kws])
  x : Ext Γ ρ H ρ' H'
  rep : DRep Γ ρ' H' kws kvs
def PostD (Γ : Gm) (Z : WX) (σ : L2.St) (ρ : Pl) (H : Hp) (Q : VK) : R (List (W × W)) → Prop
  | .ok ws st' => ∀ a vs ρ' H', FreshD Γ ρ H ρ' H' st' ws a vs → Q (.ref a) H'
  | .exc x st' => ∀ ρ' H' cls d, RelS Γ ρ' H' st' → Ext Γ ρ H ρ' H' → RepX Γ ρ' H' x cls d → Z cls d σ H'
  | .stuck => False
def rdD (Γ : Gm) (Z : WX) (ε : ID) : TE := fun σ H Q => ∃ ρ env st, RelS Γ ρ H st ∧ RelE Γ ρ H env σ ∧ PostD Γ Z σ ρ H Q (ε env st)
theorem rd_dc {ι : II} {g : Tg} {own : List Nat} (hsub : ∀ j, j ∈ g.slots → j ∈ own) {σ : L2.St} {H : Hp} {Q : VK} (h : rdD Γ Z (dDC ι g τ κ α own) σ H Q) : tDc (rdI Γ Z ι) (rdG Γ g) (rdT Γ Z0 τ) (rd Γ Z0 κ) (rd Γ Z0 α) own σ H Q := by
  obtain ⟨ρ, env, st, hS, hE, h⟩ := h
  refine ⟨ρ, env, st, hS, hE, ?_⟩
  unfold dDC at h
  cases e : ι env st with
  | exc x s => rw [e] at h; exact h
  | stuck => rw [e] at h; exact h
  | ok I s =>
    rw [e, bind_ok] at h
    intro J ρ1 H1 hS1 x1 wk D hD
    have hD0 : H D = none := x1.none_back hS hS1 hD
    refine ⟨fun i m H' => m = I.items.length - i ∧ i ≤ I.items.length ∧ ∃ ρ2 s2 acc vacc, ρ2.off = D :: ρ.off ∧ RelS Γ ρ2 H' s2 ∧ RelE Γ ρ2 H' (wipeE env own) (wipe σ own) ∧ Ext0 Γ ρ1 H1 ρ2 H' ∧ Ext Γ ρ H ⟨ρ2.at_, ρ.off, ρ2.fz⟩ H' ∧ H' D = some (.dK vacc) ∧ DRep Γ ρ2 H' acc vacc ∧
      PostD Γ Z σ ρ H Q (dcGo I.guard g τ κ α (wipeE env own) (I.items.drop i) s2 acc),
      ⟨_, rfl, Nat.zero_le _, ρ1.hold D, s, [], [], by show D :: ρ1.off = _; rw [x1.off], hS1.hold hD, ((hE.ext x1).wipe own).ext0 (Ext0.hold hD), Ext0.hold hD, ?_, upd_same, ⟨rfl, rfl⟩, by simpa using h⟩, ?_⟩
    · exact ⟨x1.pre, fun a vs q => SqT.upd_new hD (x1.tup a vs q), fun a o q n => let ⟨q1, n1⟩ := x1.frm a o q n; ⟨by rw [upd_ne (ne_of_none q hD0)]; exact q1, n1⟩, rfl⟩
    rintro i m H' ⟨rfl, hi, ρ2, s2, acc, vacc, ho2, hS2, hE2, x2, y2, hd2, ra2, hp2⟩
    have hDo : D ∈ ρ2.off := by rw [ho2]; exact List.mem_cons_self ..
    by_cases hl : i < I.items.length
    · rw [List.drop_eq_getElem_cons hl] at hp2
      unfold dcGo at hp2
      by_cases hG : I.guard s2
      · rw [if_pos hG] at hp2
        obtain ⟨g1, g2⟩ := wk.go i ρ2 H' s2 hS2 x2 hG I.items[i] (List.getElem?_eq_getElem hl)
        refine .inr ⟨g1, fun H3 => i + 1 ≤ I.items.length ∧ ∃ ρ3 s3 acc3 vacc3, ρ3.off = D :: ρ.off ∧ RelS Γ ρ3 H3 s3 ∧ RelE Γ ρ3 H3 (wipeE env own) (wipe σ own) ∧ Ext0 Γ ρ1 H1 ρ3 H3 ∧ Ext Γ ρ H ⟨ρ3.at_, ρ.off, ρ3.fz⟩ H3 ∧ H3 D = some (.dK vacc3) ∧ DRep Γ ρ3 H3 acc3 vacc3 ∧
          PostD Γ Z σ ρ H Q (dcGo I.guard g τ κ α (wipeE env own) (I.items.drop (i + 1)) s3 acc3), ?_, ?_⟩
        · rintro H3 ⟨l3, q3⟩
          exact ⟨_, by omega, rfl, l3, q3⟩
        · intro x H3 y
          obtain ⟨hS3, x3, r3⟩ := g2 x H3 y
          cases e2 : g.run I.items[i] (wipeE env own) with
          | none => rw [e2] at hp2; exact hp2.elim
          | some env3 =>
            simp only [e2] at hp2
            have up : ∀ {ρa ρb : Pl} {Ha Hb : Hp}, Ext Γ ρ H ⟨ρa.at_, ρ.off, ρa.fz⟩ Ha → Ext Γ ρa Ha ρb Hb → Ext Γ ρ H ⟨ρb.at_, ρ.off, ρb.fz⟩ Hb := fun {ρa ρb Ha Hb} u v =>
              ⟨fun n a q => v.pre n a (u.pre n a q), fun a vs q => v.tup a vs (u.tup a vs q), fun a o q n => let ⟨q1, n1⟩ := u.frm a o q n; v.frm a o q1 n1, rfl⟩
            refine ⟨ρ2, wipeE env own, _, env3, hE2.ext x3, r3, e2, fun σ4 hE4 o4 l4 => ⟨?_, ?_⟩⟩
            · rw [← wipe_wipe (σ := σ)]
              exact wipe_eq l4 fun j hj => o4 j fun z => hj (hsub j z)
            refine ⟨ρ2, env3, s2, hS3, hE4, ?_⟩
            cases e3 : τ env3 s2 with
            | exc z s5 => simp only [e3] at hp2; exact hp2.elim
            | stuck => simp only [e3] at hp2; exact hp2.elim
            | ok k s5 =>
              simp only [e3] at hp2
              rintro v ρ5 H5 hS5 x5 rfl
              cases k with
              | false =>
                exact ⟨hl, ρ5, s5, acc, vacc, by rw [x5.off]; exact ho2, hS5, hE2.ext (x3.trans x5), (x2.trans x3.zero).trans x5.zero, up (up y2 x3) x5,
                  (x5.frm D _ (x3.frm D _ hd2 (.inl (hS2.offs D hDo).2)).1 (x3.frm D _ hd2 (.inl (hS2.offs D hDo).2)).2).1, ra2.ext0 (x3.trans x5).zero, hp2⟩
              | true =>
                refine ⟨ρ5, env3, s5, hS5, hE4.ext x5, ?_⟩
                simp only at hp2
                cases e5 : κ env3 s5 with
                | exc z s6 => simp only [e5] at hp2; exact hp2.elim
                | stuck => simp only [e5] at hp2; exact hp2.elim
                | ok kw s6 =>
                  simp only [e5] at hp2
                  intro kv ρ6 H6 hS6 x6 r6
                  refine ⟨ρ6, env3, s6, hS6, (hE4.ext x5).ext x6, ?_⟩
                  cases e6 : α env3 s6 with
                  | exc z s7 => simp only [e6] at hp2; exact hp2.elim
                  | stuck => simp only [e6] at hp2; exact hp2.elim
                  | ok w s7 =>
                    simp only [e6] at hp2
                    by_cases hz : keyOk kw = true ∧ acc.length < lim
                    · rw [if_pos hz] at hp2
                      intro u ρ7 H7 hS7 x7 r7
                      obtain ⟨kk, rfl, rfl⟩ := key_V r6 hz.1
                      have x37 := ((x3.trans x5).trans x6).trans x7
                      have hd7 : H7 D = some (.dK vacc) := (x37.frm D _ hd2 (.inl (hS2.offs D hDo).2)).1
                      have hDo7 : D ∈ ρ7.off := by rw [x37.off]; exact hDo
                      have mk : Ext0 Γ ρ7 H7 ρ7 (upd H7 D (.dK (putK vacc kk u))) := Ext0.making hDo7 hd7 trivial
                      refine ⟨vacc, kk, rfl, hd7, by rw [ra2.len]; exact hz.2, hl, ρ7, s7, putD acc (keyW kk) w, putK vacc kk u, by rw [x37.off]; exact ho2, hS7.making hDo7 hd7 trivial, (hE2.ext x37).ext0 mk, (x2.trans x37.zero).trans mk, ?_, upd_same, putD_rep kk (r7.ext0 mk) ((ra2.ext0 x37.zero).ext0 mk), hp2⟩
                      have y7 := up y2 x37
                      exact ⟨y7.pre, fun a vs q => SqT.upd_mut hd7 trivial (y7.tup a vs q), fun a o q n => let ⟨q1, n1⟩ := y7.frm a o q n; ⟨by rw [upd_ne (ne_of_none q hD0)]; exact q1, n1⟩, rfl⟩
                    · rw [if_neg hz] at hp2; exact hp2.elim
      · rw [if_neg hG] at hp2; exact hp2.elim
    · have ei : i = I.items.length := by omega
      subst ei
      rw [List.drop_length] at hp2
      unfold dcGo at hp2
      by_cases hG : I.guard s2
      · rw [if_pos hG] at hp2
        refine .inl ⟨wk.stop ρ2 H' s2 hS2 x2 hG, hp2 D vacc ⟨ρ2.at_, ρ.off, ρ2.fz⟩ H' ⟨hD0, hd2, (hS2.offs D hDo).2, hS.new_no hD0, hS2.done ho2, hS2.doneC ho2 (hS.new_no hD0) ⟨vacc, hd2, ra2.1, ra2.2⟩, y2, ra2.1, ?_⟩⟩
        exact RepL.cut (ρ := ρ2) (ρ' := ⟨ρ2.at_, ρ.off, ρ2.fz⟩) (n := ρ2.at_.length) (fun _ _ _ q => q) (done_hs ho2) ra2.2.bd ra2.2
      · rw [if_neg hG] at hp2; exact hp2.elim
theorem d_dc {tg iter : Expr} {ifs : List Expr} {scope : Scope} {own : List (Str × Nat)} {ι : II} {g : Tg} (hc : X.calm = true) (hN : X.N.Nodup) (hi : PI X tg iter (rdI Γ Z ι)) (ok : BlkOk X.N X.env.scope scope own)
    (hg : ∀ (s : Shared) (H : Hp) (C : Addr) (cl : List (Str × Addr)) (fp : List Addr), PG (X.blk s H scope (compEnvC scope cl C X.env) fp) tg (rdG Γ g)) (ht : ∀ (s : Shared) (H : Hp) (C : Addr) (cl : List (Str × Addr)) (fp : List Addr), PTs (X.blk s H scope (compEnvC scope cl C X.env) fp) ifs (rdT Γ Z0 τ))
    (hk : ∀ (s : Shared) (H : Hp) (C : Addr) (cl : List (Str × Addr)) (fp : List Addr), PE (X.blk s H scope (compEnvC scope cl C X.env) fp) kx (rd Γ Z0 κ))
    (he : ∀ (s : Shared) (H : Hp) (C : Addr) (cl : List (Str × Addr)) (fp : List Addr), PE (X.blk s H scope (compEnvC scope cl C X.env) fp) vx (rd Γ Z0 α)) (hsub : ∀ j, j ∈ g.slots → j ∈ own.map (·.2) := by decide) (hs : ∀ x, foldedSetIterable iter X.env x = pure x := by intro _; rfl) :
    PE X (.DictComp kx vx [⟨tg, iter, ifs, 0⟩] scope pos) (rdD Γ Z (dDC ι g τ κ α (own.map (·.2)))) :=
  PE.imp (pe_dc hc hN hi ok hg ht hk he hs) fun _ _ _ h => rd_dc hsub h
theorem i_dct {l : ID} (h : PE X a (rdD Γ Z l)) : PE X a (rd Γ Z (eDct l)) := by
  refine PE.imp h ?_
  rintro σ H Q ⟨ρ, env, st, hS, hE, h⟩
  refine ⟨ρ, env, st, hS, hE, ?_⟩
  cases e : l env st with
  | ok ws s =>
    unfold eDct at h; rw [e] at h
    exact fun a vs ρ' H' f => h (.ref a) ρ' H' f.rel f.x ⟨a, vs, rfl, ⟨f.ob, .inl f.na, f.no⟩, f.rep.1, f.rep.2⟩
  | exc x s => unfold eDct at h; rw [e] at h; exact h
  | stuck => unfold eDct at h; rw [e] at h; exact h
theorem i_newDc {l : ID} (h : PE X a (rdD Γ Z l)) : PE X a (rd Γ Z (eNewDc l)) := by
  refine PE.imp h ?_
  rintro σ H Q ⟨ρ, env, st, hS, hE, h⟩
  refine ⟨ρ, env, st, hS, hE, ?_⟩
  cases e : l env st with
  | ok ws s =>
    unfold eNewDc at h; rw [e] at h
    refine fun a vs ρ' H' f => h (.ref a) (ρ'.add a) H' f.add ⟨fun n b q => ?_, f.x.tup, fun b o q n => ?_, f.x.off⟩ ⟨a, rfl, ?_⟩
    · show (ρ'.at_ ++ [a])[n]? = _
      have z := f.x.pre n b q
      rw [List.getElem?_append_left (List.getElem?_eq_some_iff.mp z).1]
      exact z
    · obtain ⟨h1, h2⟩ := f.x.frm b o q n
      refine ⟨h1, h2.imp (fun h2 => ?_) id⟩
      show b ∉ ρ'.at_ ++ [a]
      simp only [List.mem_append, List.mem_singleton, not_or]
      exact ⟨h2, ne_of_none q f.new⟩
    · show (ρ'.at_ ++ [a])[s.length]? = some a
      rw [List.getElem?_append_right (Nat.le_of_eq f.rel.len), f.rel.len]
      simp
  | exc x s => unfold eNewDc at h; rw [e] at h; exact h
  | stuck => unfold eNewDc at h; rw [e] at h; exact h
/-- name = {..} on one line -/
theorem s_setDc0 {n : Nat} {nm : Str} {np sp : Pos} {tg iter : Expr} {ifs : List Expr} {scope : Scope} {own : List (Str × Nat)} {J : TI} {G : TG} {T : TT} {KT VT : TE} (calm : X.calm = true) (ndN : X.N.Nodup) (at_ : X.N[n]? = some nm) (loc : X.env.scope.names.lookup nm = some .local)
    (swp : swapsWith (.DictComp kx vx [⟨tg, iter, ifs, 0⟩] scope pos) (some (.Name nm np)) sp.line X.env = pure true) (walk : PI X tg iter J) (ok : BlkOk X.N X.env.scope scope own)
    (h1 : ∀ (s : Shared) (H : Hp) (C : Addr) (cl : List (Str × Addr)) (fp : List Addr), PG (X.blk s H scope (compEnvC scope cl C X.env) fp) tg G) (h2 : ∀ (s : Shared) (H : Hp) (C : Addr) (cl : List (Str × Addr)) (fp : List Addr), PTs (X.blk s H scope (compEnvC scope cl C X.env) fp) ifs T)
    (h3 : ∀ (s : Shared) (H : Hp) (C : Addr) (cl : List (Str × Addr)) (fp : List Addr), PE (X.blk s H scope (compEnvC scope cl C X.env) fp) kx KT)
    (h4 : ∀ (s : Shared) (H : Hp) (C : Addr) (cl : List (Str × Addr)) (fp : List Addr), PE (X.blk s H scope (compEnvC scope cl C X.env) fp) vx VT) (fold : ∀ x, foldedSetIterable iter X.env x = pure x) :
    PS X (.Assign [.Name nm np] (.DictComp kx vx [⟨tg, iter, ifs, 0⟩] scope pos) sp) (tAsg (tDc J G T KT VT (own.map (·.2))) (gName n)) := by
  constructor
  intro pins sh σ H D inv asked
  rw [exec_Assign_Name_used _ _ _ _ swp]
  refine wpAny_bind (wpAny_standAt (wpAny_bind ?_))
  show wpAny _ X.A (do
    let _ ← comprehension (.DictComp kx vx [⟨tg, iter, ifs, 0⟩] scope pos) scope X.env (firstIterPos [⟨tg, iter, ifs, 0⟩] pos) newDict false (eval iter X.env) (some (assign (.Name nm np) X.env))) _ _ sh
  have asked' : tDc J G T KT VT (own.map (·.2)) σ H (fun u H1 => gName n u σ H1 D.nx) := asked
  have core := dc_core (Qf := fun _ s' => SP X pins D .next s') (use := some (assign (.Name nm np) X.env)) (pos' := firstIterPos [⟨tg, iter, ifs, 0⟩] pos) (pos := pos) calm ndN inv walk ok h1 h2 h3 h4 fold asked'
  refine wpAny_bind (thn (core fun L C s' m H' I' q hn fp => ?_) fun _ s' hq => wpAny_pure (wpAny_pure hq))
  show wpAny _ _ (assign (.Name nm np) X.env (.ref L)) _ _ _
  refine wpAny_assign_Name (store_ok2 (v := V.ref L) I' ndN at_ (.inl loc) rfl (fun s2 I2 ⟨cell, sb, here⟩ => ?_) (.inr loc))
  obtain ⟨k0, k1, k2, k3, k4, k5⟩ := fp
  have apart : C ≠ cell := by
    rcases here with z | z
    · rw [z]; exact k1
    · intro e
      exact k4 nm cell z e.symm
  exact ⟨m, hn.sameBut sb apart, fun h3 sb3 => ⟨_, H', I2.turned (t' := s2.toks) (fun b o hb e => (sb3.2 b hb).trans e) k0 k1 k3 k4 k5, q⟩⟩
theorem sw_trueD {gs : List Comprehension} {scope : Scope} {np : Pos} {nm : Str} {ln : Nat} {env : PySem.Env} (fn : env.scope.kind = .function) (loc : env.scope.names.lookup nm = some .local) (line : (np.line == pos.line) = true)
    (other : (scope.names.any fun (n, k) => n == nm && (k == .local || k == .cell)) = false) : swapsWith (.DictComp kx vx gs scope pos) (some (.Name nm np)) ln env = pure true := by
  have e1 : env.kindOf nm = some .local := loc
  have e2 : env.blockKind = .function := by
    unfold Env.blockKind
    rw [fn]
    rfl
  unfold swapsWith
  simp only [e2, e1, other, Expr.pos, line]
  rfl
theorem s_setDc {n : Nat} {nm : Str} {np sp : Pos} {tg iter : Expr} {ifs : List Expr} {scope : Scope} {own : List (Str × Nat)} {ι : II} {g : Tg} {wrap : ID → IE} (hw : ∀ (l : ID) σ H Q, rd Γ Z (wrap l) σ H Q → rdD Γ Z l σ H Q) (calm : X.calm = true) (ndN : X.N.Nodup) (at_ : X.N[n]? = some nm) (loc : X.env.scope.names.lookup nm = some .local)
    (swp : swapsWith (.DictComp kx vx [⟨tg, iter, ifs, 0⟩] scope pos) (some (.Name nm np)) sp.line X.env = pure true) (walk : PI X tg iter (rdI Γ Z ι)) (ok : BlkOk X.N X.env.scope scope own)
    (h1 : ∀ (s : Shared) (H : Hp) (C : Addr) (cl : List (Str × Addr)) (fp : List Addr), PG (X.blk s H scope (compEnvC scope cl C X.env) fp) tg (rdG Γ g)) (h2 : ∀ (s : Shared) (H : Hp) (C : Addr) (cl : List (Str × Addr)) (fp : List Addr), PTs (X.blk s H scope (compEnvC scope cl C X.env) fp) ifs (rdT Γ Z0 τ))
    (h3 : ∀ (s : Shared) (H : Hp) (C : Addr) (cl : List (Str × Addr)) (fp : List Addr), PE (X.blk s H scope (compEnvC scope cl C X.env) fp) kx (rd Γ Z0 κ))
    (h4 : ∀ (s : Shared) (H : Hp) (C : Addr) (cl : List (Str × Addr)) (fp : List Addr), PE (X.blk s H scope (compEnvC scope cl C X.env) fp) vx (rd Γ Z0 α)) (hsub : ∀ j, j ∈ g.slots → j ∈ own.map (·.2) := by decide) (fold : ∀ x, foldedSetIterable iter X.env x = pure x := by intro _; rfl) :
    PS X (.Assign [.Name nm np] (.DictComp kx vx [⟨tg, iter, ifs, 0⟩] scope pos) sp) (rdS Γ Z (sSet n (wrap (dDC ι g τ κ α (own.map (·.2)))))) :=
  PS.imp (s_setDc0 calm ndN at_ loc swp walk ok h1 h2 h3 h4 fold) fun D σ H h => rd_dc hsub (hw _ _ _ _ (rd_asg h))
theorem w_dct (l : ID) (σ : L2.St) (H : Hp) (Q : VK) (h : rd Γ Z (eDct l) σ H Q) : rdD Γ Z l σ H Q := by
  obtain ⟨ρ, env, st, hS, hE, h⟩ := h
  refine ⟨ρ, env, st, hS, hE, ?_⟩
  unfold eDct at h
  cases e : l env st with
  | ok ws s => rw [e] at h; exact fun a vs ρ' H' f => h (.ref a) ρ' H' f.rel f.x ⟨a, vs, rfl, ⟨f.ob, .inl f.na, f.no⟩, f.rep.1, f.rep.2⟩
  | exc x s => rw [e] at h; exact h
  | stuck => rw [e] at h; exact h
theorem FreshD.last {ρ ρ' : Pl} {H H' : Hp} {st' : Store} {kws : List (W × W)} {q : Addr} {kvs : List (L2.Key × V)} (f : FreshD Γ ρ H ρ' H' st' kws q kvs) : (ρ'.add q).at_[st'.length]? = some q := by
  show (ρ'.at_ ++ [q])[st'.length]? = some q
  rw [List.getElem?_append_right (Nat.le_of_eq f.rel.len), f.rel.len]
  simp
theorem FreshD.xadd {ρ ρ' : Pl} {H H' : Hp} {st' : Store} {kws : List (W × W)} {q : Addr} {kvs : List (L2.Key × V)} (f : FreshD Γ ρ H ρ' H' st' kws q kvs) : Ext Γ ρ H (ρ'.add q) H' := by
  refine ⟨fun n b z => ?_, f.x.tup, fun b o z n => ?_, f.x.off⟩
  · show (ρ'.at_ ++ [q])[n]? = _
    have z := f.x.pre n b z
    rw [List.getElem?_append_left (List.getElem?_eq_some_iff.mp z).1]
    exact z
  · obtain ⟨h1, h2⟩ := f.x.frm b o z n
    refine ⟨h1, h2.imp (fun h2 => ?_) id⟩
    show b ∉ ρ'.at_ ++ [q]
    simp only [List.mem_append, List.mem_singleton, not_or]
    exact ⟨h2, ne_of_none z f.new⟩
theorem w_newDc (l : ID) (σ : L2.St) (H : Hp) (Q : VK) (h : rd Γ Z (eNewDc l) σ H Q) : rdD Γ Z l σ H Q := by
  obtain ⟨ρ, env, st, hS, hE, h⟩ := h
  refine ⟨ρ, env, st, hS, hE, ?_⟩
  unfold eNewDc at h
  cases e : l env st with
  | ok ws s => rw [e] at h; exact fun a vs ρ' H' f => h (.ref a) (ρ'.add a) H' f.add f.xadd ⟨a, rfl, f.last⟩
  | exc x s => rw [e] at h; exact h
  | stuck => rw [e] at h; exact h
/-! ### a starred tuple or list in a display -/
@[simp] def eArgsS (a : IE) (l : IL) : IL := fun env st => (a env st).bind fun x s1 => match seqOf s1 x with
  | some ws => (l env s1).bind fun xs s2 => .ok (ws ++ xs) s2
  | none => .stuck
theorem a_star {β : IL} (hK : X.K = Γ.K) (ha : PE X e (rd Γ Z α)) (hb : PA X es (rdA Γ Z β)) (hs : starEach (.Starred e p :: es) X.env = (true, eval e X.env) :: starEach es X.env := by rfl) : PA X (.Starred e p :: es) (rdA Γ Z (eArgsS α β)) := by
  refine PA.imp (StX.pa_star ha hb hs) ?_
  rintro σ H Q ⟨ρ, env, st, hS, hE, h⟩
  refine ⟨ρ, env, st, hS, hE, (Post.bind h).mono ?_⟩
  rintro v H1 ⟨w, s1, ρ1, e1, hS1, x1, r1, h1⟩
  cases e2 : seqOf s1 w with
  | none => rw [e2] at h1; exact h1.elim
  | some ws =>
    simp only [e2] at h1
    obtain ⟨t, q, vs, rfl, hq, rl, _⟩ := seqOf_rep hS1 r1 e2
    refine ⟨q, vs, rfl, ?_, ρ1, env, s1, hS1, hE.ext x1, (Post.bind h1).mono ?_⟩
    · rw [hK]
      cases t
      · exact .inr hq
      · exact .inl hq
    · rintro us H2 ⟨w2, s2, ρ2, e3, hS2, x2, r2, h2⟩
      exact h2 _ ρ2 H2 hS2 .refl ((rl.ext x2).app r2)
end
end M

-- Sound14
set_option Elab.async false
set_option autoImplicit false
set_option linter.all false
set_option maxRecDepth 100000
namespace M
open PySem L2
section
variable {Γ : Gm} {Z : WX} {X : Cx} {a b c e o f : Expr} {es : List Expr} {s : Stmt} {pos p tp : Pos} {α β δ : IE} {ς : IS}
theorem u1 {n m : Nat} (h : n + 64 < m) : n + 1 < m := by omega
theorem j_din (hu : X.A.units + 1 < cLine) (ha : PE X a (rd Γ Z α)) (hb : PE X b (rd Γ Z β)) (hm : behindInMarks .In b = false := by first | exact nobehind _ (by decide) (by decide) | rfl) : PT X (.Compare a [.In] [b] pos) (rdT Γ Z (tVal (eOp (opDin false) α β))) := by
  refine PT.imp (pt_cmp (pc_din hu ha hb) hm) ?_
  intro σ H Q h
  obtain ⟨ρ, env, st, hS, hE, h⟩ := rd_test h
  exact rd_din (Z := Z) ⟨ρ, env, st, hS, hE, h⟩
theorem j_dnin (hu : X.A.units + 1 < cLine) (ha : PE X a (rd Γ Z α)) (hb : PE X b (rd Γ Z β)) (hm : behindInMarks .NotIn b = false := by first | exact nobehind _ (by decide) (by decide) | rfl) : PT X (.Compare a [.NotIn] [b] pos) (rdT Γ Z (tVal (eOp (opDin true) α β))) := by
  refine PT.imp (pt_cmp (pc_dnotin hu ha hb) hm) ?_
  intro σ H Q h
  obtain ⟨ρ, env, st, hS, hE, h⟩ := rd_test h
  exact rd_din (Z := Z) ⟨ρ, env, st, hS, hE, h⟩
/-- ahead of a statement: a list, dict or object stops changing -/
theorem s_frz (i : Nat) (h : PS X s (rdS Γ Z ς)) : PS X s (rdS Γ Z (sSeq (sSet i (eFrz (eVar i))) ς)) := by
  refine PS.imp h ?_
  rintro D σ H ⟨ρ, env, st, hS, hE, h⟩
  simp only [sSeq, sSet, eFrz, eVar] at h
  cases e1 : env[i]? with
  | none => rw [e1] at h; exact h.elim
  | some ow =>
    rw [e1] at h
    cases ow with
    | none => exact h.elim
    | some w =>
      simp only [bind_ok] at h
      obtain ⟨v, ev, rv⟩ := hE.at_ i w e1
      have same : ∀ (ρ' : Pl) (w' : W), Ext Γ ρ H ρ' H → RepV Γ ρ' H w' v → RelE Γ ρ' H (env.set i (some w')) σ := fun ρ' w' x r => by
        have q := (hE.ext x).set i r
        have : σ.set i (some v) = σ := by
          apply List.ext_getElem?
          intro j
          by_cases hj : i = j
          · subst hj
            rw [List.getElem?_set_self (List.getElem?_eq_some_iff.mp ev).1, ev]
          · rw [List.getElem?_set_ne hj]
        rwa [this] at q
      cases w with
      | loc n =>
        simp only [frzOp] at h
        obtain ⟨q, rfl, hq⟩ := rv
        cases e2 : st[n]? with
        | none => rw [e2] at h; exact h.elim
        | some cl =>
          rw [e2] at h
          have nf : q ∉ ρ.off := fun z => (hS.offs q z).2 (List.mem_of_getElem? hq)
          have zz : (q ∉ (ρ.freeze q).at_ ∨ q ∈ (ρ.freeze q).fz) := .inr (List.mem_cons_self ..)
          have fx : Ext Γ ρ H (ρ.freeze q) H := Ext.freeze
          have cr := hS.at_ n _ q e2 hq
          cases cl with
          | lst ws =>
            obtain ⟨vs, ob, rl⟩ := cr
            exact ⟨ρ.freeze q, _, _, hS.freeze hq e2, same _ (.lst ws) fx ⟨q, vs, rfl, ⟨ob, zz, nf⟩, rl.ext fx⟩, PostS.ext fx h⟩
          | dict kvs =>
            obtain ⟨vs, ob, k, rl⟩ := cr
            exact ⟨ρ.freeze q, _, _, hS.freeze hq e2, same _ (.dct (kvs.map (·.1)) (kvs.map (·.2))) fx ⟨q, vs, rfl, ⟨ob, zz, nf⟩, k, rl.ext fx⟩, PostS.ext fx h⟩
          | dictP kvs =>
            obtain ⟨xs, us, ob, u1, u2, r1, r2⟩ := cr
            exact ⟨ρ.freeze q, _, _, hS.freeze hq e2, same _ (.dctP (kvs.map (·.1)) (kvs.map (·.2))) fx ⟨q, xs, us, rfl, ⟨ob, zz, nf⟩, u1, u2, r1.ext fx, r2.ext fx⟩, PostS.ext fx h⟩
          | obj c fs =>
            obtain ⟨C, dx, gs, c1, ob, k, rl⟩ := cr
            exact ⟨ρ.freeze q, _, _, hS.freeze hq e2, same _ (.ob c (fs.map (·.1)) (fs.map (·.2))) fx ⟨q, C, dx, gs, rfl, c1, ⟨ob, zz, nf⟩, by rw [k, List.map_map]; rfl, rl.ext fx⟩, PostS.ext fx h⟩
          | gone => exact h.elim
      | _ => exact ⟨ρ, _, _, hS, same ρ _ .refl rv, h⟩
end
end M

-- SetS
set_option Elab.async false
set_option autoImplicit false
set_option linter.all false
set_option maxRecDepth 100000
/-! sets of texts, of any length: how many different ones -/
namespace M
open PySem PySem.Spec PyProof.Rows SS
def cntS (xs : List Str) : Nat → Nat
  | 0 => 0
  | i + 1 => if (xs.take i).any (· == xs.getD i Str.empty) = true then cntS xs i else cntS xs i + 1
theorem cntS_le (xs : List Str) : ∀ i, cntS xs i ≤ i
  | 0 => Nat.le_refl _
  | i + 1 => by
    have := cntS_le xs i
    unfold cntS; split <;> omega
section
variable {prog : Program} {w : World} {A : Around} {R : Result → Shared → Prop} {I : Addr} {fp wr : List Addr} {G : Array GenState → Array GenState → Prop} {n : Nat} {P : Nat → Value → Prop} {St : Nat → Shared → Prop}
theorem loopSet (W : WalksS prog w A.in1 I fp wr G n P St) (S : Addr) (hSf : S ∉ fp) (xs : List Str) (hsz : xs.length = n) (hn1 : n + 1 < scanBound)
    (hval : ∀ i v, P i v → ∃ t, v = .str (xs.getD i Str.empty) t) :
    ∀ (k i : Nat) (s : Shared), n - i = k → i ≤ n → St i s →
      s.heap.SetOf (PySem.strKind prog w) S (fun k' => (xs.take i).any (· == k')) (cntS xs i) →
      (∀ s', Moved (S :: wr) G s s' → s'.heap.SetOf (PySem.strKind prog w) S (fun k' => (xs.take n).any (· == k')) (cntS xs n) → R (.ok (.ret .none)) s') →
      codeAny (model prog w) A (.builtin "set.update.loop" ⟨[.ref S, .ref I], []⟩) R s := by
  have hSw : S ∉ wr := fun h => hSf (W.sub _ h)
  have hsub : ∀ b ∈ wr, b ∈ S :: wr := fun b hb => List.mem_cons_of_mem _ hb
  have keep : ∀ {h1 h2 : Heap} {f : Str → Bool} {c : Nat}, (∀ o, h1.get? S = some o → h2.get? S = some o) → h1.SetOf (PySem.strKind prog w) S f c → h2.SetOf (PySem.strKind prog w) S f c := by
    rintro h1 h2 f c hk ⟨o, es, ep, t, ho, rest⟩
    exact ⟨o, es, ep, t, hk o ho, rest⟩
  intro k
  induction k with
  | zero =>
    intro i s hk hi hst hS hR
    obtain rfl : i = n := by omega
    refine codeAny_builtin PyProof.Rows.F.entry_set_update_loop ?_
    rw [Around.under_plainId PyProof.Rows.F.plain_set_update_loop _]
    show wpAny _ A.in1 (pyNext (.ref I) >>= _) _ _ s
    refine wpAny_bind (W.done s _ _ hst fun s' hm => ?_)
    show wpAny _ A.in1 (ret Value.none) _ _ s'
    exact wpAny_pure (hR s' (hm.mono hsub) (keep (fun o e => hm.heap S o hSw e) hS))
  | succ k ih =>
    intro i s hk hi hst hS hR
    have hlt : i < n := by omega
    have hc := cntS_le xs i
    refine codeAny_builtin PyProof.Rows.F.entry_set_update_loop ?_
    rw [Around.under_plainId PyProof.Rows.F.plain_set_update_loop _]
    show wpAny _ A.in1 (pyNext (.ref I) >>= _) _ _ s
    refine wpAny_bind (W.item i s _ _ hlt hst fun v s' hP hst' hm => ?_)
    obtain ⟨t, rfl⟩ := hval i v hP
    have hS' := keep (fun o e => hm.heap S o hSw e) hS
    show wpAny _ A.in1 (holding [Value.str (xs.getD i Str.empty) t] (setAdd S (.str (xs.getD i Str.empty) t)) >>= _) _ _ s'
    refine wpAny_bind (wpAny_holding ?_)
    unfold setAdd
    refine wpAny_holding ?_
    refine wpAny_bind ((PySem.strKind prog w).pyHash (k := xs.getD i Str.empty) (strKind_is _ _ _ _) ?_)
    refine wpAny_setAddHashed_of (knd := PySem.strKind prog w) (s := { s' with toks := s'.toks + 1 }) (strKind_is _ _ _ _) rfl hS' (by omega) fun h' hsb hS2 => ?_
    have hSi : h'.SetOf (PySem.strKind prog w) S (fun k' => (xs.take (i + 1)).any (· == k')) (cntS xs (i + 1)) := by
      refine SetOf_congr hS2 (fun k' => ?_) rfl
      have e : xs.take (i + 1) = xs.take i ++ [xs.getD i Str.empty] := by
        rw [List.take_succ_eq_append_getElem (by omega), List.getD_eq_getElem?_getD, List.getElem?_eq_getElem (by omega)]; rfl
      rw [e, List.any_append]
      simp only [List.any_cons, List.any_nil, Bool.or_false]
      congr 1
      by_cases e2 : k' = xs.getD i Str.empty
      · simp [e2]
      · have : (xs.getD i Str.empty == k') = false := beq_eq_false_iff_ne.mpr fun h => e2 h.symm
        rw [this]; simpa using e2
    refine wpAny_pure ⟨plainId_quiet PyProof.Rows.F.plain_set_update_loop _, ih (i + 1) _ (by omega) hlt (W.frame _ s' _ _ hst' (Nat.le_succ _) fun b hb o e => ?_) hSi fun s'' hm'' hS'' => ?_⟩
    · rw [hsb.2 b (fun h : b = S => hSf (by rw [← h]; exact hb))]; exact e
    · refine hR s'' (Moved.trans W.gtrans ((hm.mono hsub).then_heap (Nat.le_succ _) fun b o hb e => ?_) hm'') hS''
      rw [hsb.2 b (fun h : b = S => hb (by rw [h]; exact List.mem_cons_self))]; exact e
end
section
variable {prog : Program} {w : World} {A : Around} {E : Value → Shared → Prop} {s : Shared}
set_option maxHeartbeats 3200000 in
/-- set(xs), xs a list of strs -/
theorem call_setS {l : Addr} {items : Array Value} {xs : List Str} {Q : Value → Shared → Prop}
    (hh : A.handled = none) (hl : s.heap.IsList l items) (hi : StrsAre items.toList xs) (hn : xs.length + 1 < scanBound)
    (h : ∀ (h' : Heap) (tk : Nat), h'.SetOf (PySem.strKind prog w) s.heap.objs.size (fun k' => (xs.take items.size).any (· == k')) (cntS xs items.size) →
      (∀ b o, b < s.heap.objs.size → s.heap.get? b = some o → h'.get? b = some o) → Q (.ref s.heap.objs.size) { s with heap := h', toks := tk }) :
    wpAny (model prog w) A (call (.type "set") [.ref l]) Q E s := by
  obtain ⟨c, tl, hmro⟩ := PySem.F.called_set.mro
  have hmade := PySem.F.called_set.made
  have hsub := PySem.F.called_set.sub
  refine wpAny_call (codeAny_of_tree ?_)
  show wpAny _ _ (callAny (.type "set") _) _ _ _
  refine wpAny_pure ⟨Code.quiet_builtin _ (by decide +kernel), codeAny_builtin PySem.F.entry_type_call ?_⟩
  rw [Around.under_plain (weight_type_call_type "set" [.ref l] []) rfl]
  have h1 := PySem.F.called_set.notType
  have h2 := PySem.F.called_set.canCreate
  have hct := PySem.F.typeCall_set_1 (.ref l)
  repeat (any_goals (first | assumption | wp_step))
  refine codeAny_mono (code_set_new_1 (.ref l) (E := E) (Q₁ := fun obj s₁ => ∃ led : Bool, obj = .ref s.heap.objs.size ∧ s₁ = { s with heap := s.heap.push { cls := .type "set", dict := none, data := .set #[] 0 (.fresh 0 0 led) } }) fun led => ⟨led, rfl, rfl⟩) fun r s₁ hr => ?_
  cases r with
  | error e => exact hr
  | ok fl =>
  cases fl with
  | ret obj =>
    obtain ⟨led, rfl, rfl⟩ := hr
    generalize hob : ({ cls := .type "set", dict := none, data := .set #[] 0 (.fresh 0 0 led) } : Obj) = ob
    have hg0 : (s.heap.push ob).get? s.heap.objs.size = some ob := Heap.get?_push_size _ (by rw [← hob]; rfl)
    have ty : Shared.TypeIs { s with heap := s.heap.push ob } (.ref s.heap.objs.size) "set" := ⟨_, hg0, by rw [← hob]⟩
    have hli := PySem.F.called_set.init.lookup
    have hbi := PySem.F.called_set.init.bind (.ref s.heap.objs.size)
    repeat (any_goals (first | assumption | wp_step))
    refine codeAny_mono (codeAny_call_builtin (R := wants (fun r s₂ => r = .none ∧ ∃ h' tk, s₂ = { s with heap := h', toks := tk } ∧
        h'.SetOf (PySem.strKind prog w) s.heap.objs.size (fun k' => (xs.take items.size).any (· == k')) (cntS xs items.size) ∧
        (∀ b o, b < s.heap.objs.size → s.heap.get? b = some o → h'.get? b = some o)) E) PySem.F.called_set.init.plain PySem.F.entry_set_init (check_set_init_1 ty ?_)) fun r₂ s₂ hr₂ => ?_
    · obtain ⟨⟨_, od, _, os⟩, hol, hcl, nl, hdl⟩ := hl
      simp only at hcl hdl
      subst hcl hdl
      have q1 := PySem.F.sub_list_set
      have q2 := PySem.F.sub_list_frozenset
      have q3 : (Value.type "list" == Value.type "dict") = false := by decide
      have hol' := Heap.get?_push_of_some ob hol
      have hl1 : (s.heap.push ob).IsList l items := ⟨_, hol', rfl, nl, rfl⟩
      have hlS : l < s.heap.objs.size := Heap.lt_size hol
      have hsz1 : (s.heap.push ob).objs.size = s.heap.objs.size + 1 := Heap.size_push _ _
      have hh3 : A.in1.in1.in1.handled = none := by simp [hh]
      have hneI : l ≠ (s.heap.push ob).objs.size := by rw [hsz1]; exact Nat.ne_of_lt (Nat.lt_succ_of_lt hlS)
      have hSf : s.heap.objs.size ∉ [(s.heap.push ob).objs.size, l] := by
        simp only [List.mem_cons, List.not_mem_nil, or_false, not_or]
        exact ⟨by rw [hsz1]; exact Nat.ne_of_lt (Nat.lt_succ_self _), Nat.ne_of_gt hlS⟩
      have hsz : xs.length = items.size := by rw [← StrsAre.len_eq hi, Array.length_toList]
      subst hob
      unfold Builtin.«set.__init__» noKeywords Builtin.Frozenset.updateFrom
      generalize hPI : pyIter = PI
      wp_walk
      subst hPI
      refine wpAny_pyIter_list hl1 ?_
      refine wpAny_bind (wpAny_runValue ?_)
      refine loopSet ((Walks.list hh3 _ l hneI items).toS) s.heap.objs.size hSf xs hsz (by omega) (fun i v hv => strs_at hi i v (by rw [Array.getElem?_toList]; exact hv)) (items.size - 0) 0 _ (by omega) (Nat.zero_le _)
        ⟨⟨_, Heap.get?_push_size _ rfl, rfl, rfl⟩, (hl1.push _)⟩ ?hS0 ?hR
      case hS0 =>
        have hget := Heap.get?_push_of_some { cls := .type "list_iterator", data := .fields #[.ref l, .int 0 0] } hg0
        exact SetOf_congr ((setObjOf_fresh (knd := PySem.strKind prog w) led).setOf hget (by unfold scanBound; omega)) (fun _ => rfl) rfl
      case hR =>
        intro s' hm hS'
        obtain ⟨h', g', d', tk', os'⟩ := s'
        obtain rfl : g' = s.gens := hm.gens
        obtain rfl : d' = s.drawn := hm.drawn
        obtain rfl : os' = s.os := hm.os
        show wpAny _ _ _ _ _ _
        refine wpAny_pure ?_
        show wpAny _ _ (ret Value.none) _ _ _
        refine wpAny_pure ⟨rfl, h', tk', rfl, hS', fun b o hb e => ?_⟩
        refine hm.heap b o ?_ (Heap.get?_push_of_some _ (Heap.get?_push_of_some _ e))
        simp only [List.mem_cons, List.not_mem_nil, or_false, not_or]
        exact ⟨Nat.ne_of_lt hb, by rw [Heap.size_push]; exact Nat.ne_of_lt (Nat.lt_succ_of_lt hb)⟩
    · cases r₂ with
      | error e => exact hr₂
      | ok fl₂ =>
      cases fl₂ with
      | ret r =>
        obtain ⟨rfl, h', tk, rfl, hS', hk'⟩ := hr₂
        repeat (any_goals (first | assumption | wp_step))
        exact h _ _ hS' hk'
      | _ => exact hr₂.elim
  | _ => exact hr.elim
end
section
variable {prog : Program} {w : World} {A : Around} {E : Value → Shared → Prop} {s : Shared}
set_option maxHeartbeats 3200000 in
/-- set(xs), xs a tuple of strs -/
theorem call_setT {l : Addr} {items : Array Value} {xs : List Str} {Q : Value → Shared → Prop}
    (hh : A.handled = none) (hl : s.heap.IsTuple l items) (hi : StrsAre items.toList xs) (hn : xs.length + 1 < scanBound)
    (h : ∀ (h' : Heap) (tk : Nat), h'.SetOf (PySem.strKind prog w) s.heap.objs.size (fun k' => (xs.take items.size).any (· == k')) (cntS xs items.size) →
      (∀ b o, b < s.heap.objs.size → s.heap.get? b = some o → h'.get? b = some o) → Q (.ref s.heap.objs.size) { s with heap := h', toks := tk }) :
    wpAny (model prog w) A (call (.type "set") [.ref l]) Q E s := by
  obtain ⟨c, tl, hmro⟩ := PySem.F.called_set.mro
  have hmade := PySem.F.called_set.made
  have hsub := PySem.F.called_set.sub
  refine wpAny_call (codeAny_of_tree ?_)
  show wpAny _ _ (callAny (.type "set") _) _ _ _
  refine wpAny_pure ⟨Code.quiet_builtin _ (by decide +kernel), codeAny_builtin PySem.F.entry_type_call ?_⟩
  rw [Around.under_plain (weight_type_call_type "set" [.ref l] []) rfl]
  have h1 := PySem.F.called_set.notType
  have h2 := PySem.F.called_set.canCreate
  have hct := PySem.F.typeCall_set_1 (.ref l)
  repeat (any_goals (first | assumption | wp_step))
  refine codeAny_mono (code_set_new_1 (.ref l) (E := E) (Q₁ := fun obj s₁ => ∃ led : Bool, obj = .ref s.heap.objs.size ∧ s₁ = { s with heap := s.heap.push { cls := .type "set", dict := none, data := .set #[] 0 (.fresh 0 0 led) } }) fun led => ⟨led, rfl, rfl⟩) fun r s₁ hr => ?_
  cases r with
  | error e => exact hr
  | ok fl =>
  cases fl with
  | ret obj =>
    obtain ⟨led, rfl, rfl⟩ := hr
    generalize hob : ({ cls := .type "set", dict := none, data := .set #[] 0 (.fresh 0 0 led) } : Obj) = ob
    have hg0 : (s.heap.push ob).get? s.heap.objs.size = some ob := Heap.get?_push_size _ (by rw [← hob]; rfl)
    have ty : Shared.TypeIs { s with heap := s.heap.push ob } (.ref s.heap.objs.size) "set" := ⟨_, hg0, by rw [← hob]⟩
    have hli := PySem.F.called_set.init.lookup
    have hbi := PySem.F.called_set.init.bind (.ref s.heap.objs.size)
    repeat (any_goals (first | assumption | wp_step))
    refine codeAny_mono (codeAny_call_builtin (R := wants (fun r s₂ => r = .none ∧ ∃ h' tk, s₂ = { s with heap := h', toks := tk } ∧
        h'.SetOf (PySem.strKind prog w) s.heap.objs.size (fun k' => (xs.take items.size).any (· == k')) (cntS xs items.size) ∧
        (∀ b o, b < s.heap.objs.size → s.heap.get? b = some o → h'.get? b = some o)) E) PySem.F.called_set.init.plain PySem.F.entry_set_init (check_set_init_1 ty ?_)) fun r₂ s₂ hr₂ => ?_
    · obtain ⟨⟨_, od, _, os⟩, hol, hcl, nl, hdl⟩ := hl
      simp only at hcl hdl
      subst hcl hdl
      have q1 := PySem.F.sub_tuple_set
      have q2 := PySem.F.sub_tuple_frozenset
      have q3 : (Value.type "tuple" == Value.type "dict") = false := by decide
      have hol' := Heap.get?_push_of_some ob hol
      have hl1 : (s.heap.push ob).IsTuple l items := ⟨_, hol', rfl, nl, rfl⟩
      have hlS : l < s.heap.objs.size := Heap.lt_size hol
      have hsz1 : (s.heap.push ob).objs.size = s.heap.objs.size + 1 := Heap.size_push _ _
      have hh3 : A.in1.in1.in1.handled = none := by simp [hh]
      have hneI : l ≠ (s.heap.push ob).objs.size := by rw [hsz1]; exact Nat.ne_of_lt (Nat.lt_succ_of_lt hlS)
      have hSf : s.heap.objs.size ∉ [(s.heap.push ob).objs.size, l] := by
        simp only [List.mem_cons, List.not_mem_nil, or_false, not_or]
        exact ⟨by rw [hsz1]; exact Nat.ne_of_lt (Nat.lt_succ_self _), Nat.ne_of_gt hlS⟩
      have hsz : xs.length = items.size := by rw [← StrsAre.len_eq hi, Array.length_toList]
      subst hob
      unfold Builtin.«set.__init__» noKeywords Builtin.Frozenset.updateFrom
      generalize hPI : pyIter = PI
      wp_walk
      subst hPI
      refine wpAny_pyIter_tuple hl1 ?_
      refine wpAny_bind (wpAny_runValue ?_)
      refine loopSet ((Walks.tuple hh3 _ l hneI items).toS) s.heap.objs.size hSf xs hsz (by omega) (fun i v hv => strs_at hi i v (by rw [Array.getElem?_toList]; exact hv)) (items.size - 0) 0 _ (by omega) (Nat.zero_le _)
        ⟨⟨_, Heap.get?_push_size _ rfl, rfl, rfl⟩, (hl1.push _)⟩ ?hS0 ?hR
      case hS0 =>
        have hget := Heap.get?_push_of_some { cls := .type "tuple_iterator", data := .fields #[.ref l, .int 0 0] } hg0
        exact SetOf_congr ((setObjOf_fresh (knd := PySem.strKind prog w) led).setOf hget (by unfold scanBound; omega)) (fun _ => rfl) rfl
      case hR =>
        intro s' hm hS'
        obtain ⟨h', g', d', tk', os'⟩ := s'
        obtain rfl : g' = s.gens := hm.gens
        obtain rfl : d' = s.drawn := hm.drawn
        obtain rfl : os' = s.os := hm.os
        show wpAny _ _ _ _ _ _
        refine wpAny_pure ?_
        show wpAny _ _ (ret Value.none) _ _ _
        refine wpAny_pure ⟨rfl, h', tk', rfl, hS', fun b o hb e => ?_⟩
        refine hm.heap b o ?_ (Heap.get?_push_of_some _ (Heap.get?_push_of_some _ e))
        simp only [List.mem_cons, List.not_mem_nil, or_false, not_or]
        exact ⟨Nat.ne_of_lt hb, by rw [Heap.size_push]; exact Nat.ne_of_lt (Nat.lt_succ_of_lt hb)⟩
    · cases r₂ with
      | error e => exact hr₂
      | ok fl₂ =>
      cases fl₂ with
      | ret r =>
        obtain ⟨rfl, h', tk, rfl, hS', hk'⟩ := hr₂
        repeat (any_goals (first | assumption | wp_step))
        exact h _ _ hS' hk'
      | _ => exact hr₂.elim
  | _ => exact hr.elim
end

end M

-- Sound15
set_option Elab.async false
set_option autoImplicit false
set_option linter.all false
set_option maxRecDepth 100000
/-! comprehensions with two fors -/
namespace M
open Classical in
noncomputable def lc2Go (G : Store → Prop) (g : Tg) (t : IT) (it1 : II) (g1 : Tg) (t1 : IT) (elt : IE) (own1 : List Nat) (env : Env) : List W → Store → List W → R (List W)
  | [], st, acc => if G st then .ok acc st else .stuck
  | w :: ws, st, acc => if G st then (match g.run w env with
    | none => .stuck
    | some e => match t e st with
      | .ok true s1 => (match it1 e s1 with
        | .ok I1 s2 => (lcGo I1.guard g1 t1 elt (wipeE e own1) I1.items s2 acc).bind fun acc2 s3 => lc2Go G g t it1 g1 t1 elt own1 env ws s3 acc2
        | _ => .stuck)
      | .ok false s1 => lc2Go G g t it1 g1 t1 elt own1 env ws s1 acc
      | _ => .stuck) else .stuck
noncomputable def lLC2 (it : II) (g : Tg) (t : IT) (it1 : II) (g1 : Tg) (t1 : IT) (elt : IE) (own own1 : List Nat) : IL := fun env st => (it env st).bind fun I s => lc2Go I.guard g t it1 g1 t1 elt own1 (wipeE env own) I.items s []
open PySem L2
section
variable {Γ : Gm} {Z : WX} {X : Cx} {a b c e : Expr} {es : List Expr} {s : Stmt} {ss : List Stmt} {pos : Pos} {α β : IE} {τ τ1 τ' : IT} {ς ς' : IS}
theorem rd_lc2 {ι ι1 : II} {g g1 : Tg} {own own1 : List Nat} (hsub : ∀ j, j ∈ g.slots → j ∈ own) (hsub1 : ∀ j, j ∈ g1.slots → j ∈ own1) {σ : L2.St} {H : Hp} {Q : VK} (h : rdL Γ Z (lLC2 ι g τ ι1 g1 τ1 α own own1) σ H Q) : tLc2 (rdI Γ Z ι) (rdG Γ g) (rdT Γ Z0 τ) (rdI Γ Z0 ι1) (rdG Γ g1) (rdT Γ Z0 τ1) (rd Γ Z0 α) own own1 σ H Q := by
  obtain ⟨ρ, env, st, hS, hE, h⟩ := h
  refine ⟨ρ, env, st, hS, hE, ?_⟩
  unfold lLC2 at h
  cases e : ι env st with
  | exc x s => rw [e] at h; exact h
  | stuck => rw [e] at h; exact h
  | ok I s =>
    rw [e, bind_ok] at h
    intro J ρ1 H1 hS1 x1 wk D hD
    have hD0 : H D = none := x1.none_back hS hS1 hD
    refine ⟨fun i m H' => m = I.items.length - i ∧ i ≤ I.items.length ∧ ∃ ρ2 s2 acc vacc, ρ2.off = D :: ρ.off ∧ RelS Γ ρ2 H' s2 ∧ RelE Γ ρ2 H' (wipeE env own) (wipe σ own) ∧ Ext0 Γ ρ1 H1 ρ2 H' ∧ Ext Γ ρ H ⟨ρ2.at_, ρ.off, ρ2.fz⟩ H' ∧ H' D = some (.lst vacc) ∧ RepL Γ ρ2 H' acc vacc ∧
      PostL Γ Z σ ρ H Q (lc2Go I.guard g τ ι1 g1 τ1 α own1 (wipeE env own) (I.items.drop i) s2 acc),
      ⟨_, rfl, Nat.zero_le _, ρ1.hold D, s, [], [], by show D :: ρ1.off = _; rw [x1.off], hS1.hold hD, ((hE.ext x1).wipe own).ext0 (Ext0.hold hD), Ext0.hold hD, ?_, upd_same, RepL.nil, by simpa using h⟩, ?_⟩
    · exact ⟨x1.pre, fun a vs q => SqT.upd_new hD (x1.tup a vs q), fun a o q n => let ⟨q1, n1⟩ := x1.frm a o q n; ⟨by rw [upd_ne (ne_of_none q hD0)]; exact q1, n1⟩, rfl⟩
    rintro i m H' ⟨rfl, hi, ρ2, s2, acc, vacc, ho2, hS2, hE2, x2, y2, hd2, ra2, hp2⟩
    have hDo : D ∈ ρ2.off := by rw [ho2]; exact List.mem_cons_self ..
    by_cases hl : i < I.items.length
    · rw [List.drop_eq_getElem_cons hl] at hp2
      unfold lc2Go at hp2
      by_cases hG : I.guard s2
      · rw [if_pos hG] at hp2
        obtain ⟨w1, w2⟩ := wk.go i ρ2 H' s2 hS2 x2 hG I.items[i] (List.getElem?_eq_getElem hl)
        refine .inr ⟨w1, fun H3 => i + 1 ≤ I.items.length ∧ ∃ ρ3 s3 acc3 vacc3, ρ3.off = D :: ρ.off ∧ RelS Γ ρ3 H3 s3 ∧ RelE Γ ρ3 H3 (wipeE env own) (wipe σ own) ∧ Ext0 Γ ρ1 H1 ρ3 H3 ∧ Ext Γ ρ H ⟨ρ3.at_, ρ.off, ρ3.fz⟩ H3 ∧ H3 D = some (.lst vacc3) ∧ RepL Γ ρ3 H3 acc3 vacc3 ∧
          PostL Γ Z σ ρ H Q (lc2Go I.guard g τ ι1 g1 τ1 α own1 (wipeE env own) (I.items.drop (i + 1)) s3 acc3), ?_, ?_⟩
        · rintro H3 ⟨l3, q3⟩
          exact ⟨_, by omega, rfl, l3, q3⟩
        · intro x H3 y
          obtain ⟨hS3, x3, r3⟩ := w2 x H3 y
          cases e2 : g.run I.items[i] (wipeE env own) with
          | none => rw [e2] at hp2; exact hp2.elim
          | some env3 =>
            simp only [e2] at hp2
            have up : ∀ {ρa ρb : Pl} {Ha Hb : Hp}, Ext Γ ρ H ⟨ρa.at_, ρ.off, ρa.fz⟩ Ha → Ext Γ ρa Ha ρb Hb → Ext Γ ρ H ⟨ρb.at_, ρ.off, ρb.fz⟩ Hb := fun {ρa ρb Ha Hb} u v =>
              ⟨fun n a q => v.pre n a (u.pre n a q), fun a vs q => v.tup a vs (u.tup a vs q), fun a o q n => let ⟨q1, n1⟩ := u.frm a o q n; v.frm a o q1 n1, rfl⟩
            refine ⟨ρ2, wipeE env own, _, env3, hE2.ext x3, r3, e2, fun σ4 hE4 o4 l4 => ⟨?_, ?_⟩⟩
            · rw [← wipe_wipe (σ := σ)]
              exact wipe_eq l4 fun j hj => o4 j fun z => hj (hsub j z)
            refine ⟨ρ2, env3, s2, hS3, hE4, ?_⟩
            cases e3 : τ env3 s2 with
            | exc z s5 => simp only [e3] at hp2; exact hp2.elim
            | stuck => simp only [e3] at hp2; exact hp2.elim
            | ok k s5 =>
              simp only [e3] at hp2
              rintro v ρ5 H5 hS5 x5 rfl
              have hd5 : H5 D = some (.lst vacc) := (x5.frm D _ (x3.frm D _ hd2 (.inl (hS2.offs D hDo).2)).1 (x3.frm D _ hd2 (.inl (hS2.offs D hDo).2)).2).1
              cases k with
              | false =>
                exact ⟨hl, ρ5, s5, acc, vacc, by rw [x5.off, x3.off.symm.symm]; exact ho2, hS5, hE2.ext (x3.trans x5), (x2.trans x3.zero).trans x5.zero, up (up y2 x3) x5, hd5, ra2.ext (x3.trans x5), hp2⟩
              | true =>
                refine ⟨ρ5, env3, s5, hS5, hE4.ext x5, ?_⟩
                simp only at hp2
                cases e5 : ι1 env3 s5 with
                | exc z s6 => simp only [e5] at hp2; exact hp2.elim
                | stuck => simp only [e5] at hp2; exact hp2.elim
                | ok I1 s6 =>
                  simp only [e5] at hp2
                  -- the second source's own walk
                  intro J1 ρ6 H6 hS6 x6 wk1
                  have ho6 : ρ6.off = D :: ρ.off := by rw [x6.off, x5.off]; exact ho2
                  have hDo5 : D ∈ ρ5.off := by rw [x5.off]; exact hDo
                  have hd6 : H6 D = some (.lst vacc) := (x6.frm D _ hd5 (.inl (hS5.offs D hDo5).2)).1
                  have x36 := (x3.trans x5).trans x6
                  refine ⟨fun j m H' => m = I1.items.length - j ∧ j ≤ I1.items.length ∧ ∃ ρ7 s7 acc7 vacc7, ρ7.off = D :: ρ.off ∧ RelS Γ ρ7 H' s7 ∧ RelE Γ ρ7 H' (wipeE env3 own1) (wipe σ4 own1) ∧ Ext0 Γ ρ6 H6 ρ7 H' ∧ Ext Γ ρ H ⟨ρ7.at_, ρ.off, ρ7.fz⟩ H' ∧ H' D = some (.lst vacc7) ∧ RepL Γ ρ7 H' acc7 vacc7 ∧
                    PostL Γ Z σ ρ H Q ((lcGo I1.guard g1 τ1 α (wipeE env3 own1) (I1.items.drop j) s7 acc7).bind fun acc2 s3 => lc2Go I.guard g τ ι1 g1 τ1 α own1 (wipeE env own) (I.items.drop (i + 1)) s3 acc2),
                    ⟨_, rfl, Nat.zero_le _, ρ6, s6, acc, vacc, ho6, hS6, ((hE4.ext x5).ext x6).wipe own1, Ext.refl.zero, up (up (up y2 x3) x5) x6, hd6, ra2.ext x36, by simpa using hp2⟩, ?_⟩
                  rintro j m H7 ⟨rfl, hj, ρ7, s7, acc7, vacc7, ho7, hS7, hE7, x7, y7, hd7, ra7, hp7⟩
                  have hDo7 : D ∈ ρ7.off := by rw [ho7]; exact List.mem_cons_self ..
                  by_cases hl1 : j < I1.items.length
                  · rw [List.drop_eq_getElem_cons hl1] at hp7
                    unfold lcGo at hp7
                    by_cases hG1 : I1.guard s7
                    · rw [if_pos hG1] at hp7
                      obtain ⟨w3, w4⟩ := wk1.go j ρ7 H7 s7 hS7 x7 hG1 I1.items[j] (List.getElem?_eq_getElem hl1)
                      refine .inr ⟨w3, fun H8 => j + 1 ≤ I1.items.length ∧ ∃ ρ8 s8 acc8 vacc8, ρ8.off = D :: ρ.off ∧ RelS Γ ρ8 H8 s8 ∧ RelE Γ ρ8 H8 (wipeE env3 own1) (wipe σ4 own1) ∧ Ext0 Γ ρ6 H6 ρ8 H8 ∧ Ext Γ ρ H ⟨ρ8.at_, ρ.off, ρ8.fz⟩ H8 ∧ H8 D = some (.lst vacc8) ∧ RepL Γ ρ8 H8 acc8 vacc8 ∧
                        PostL Γ Z σ ρ H Q ((lcGo I1.guard g1 τ1 α (wipeE env3 own1) (I1.items.drop (j + 1)) s8 acc8).bind fun acc2 s3 => lc2Go I.guard g τ ι1 g1 τ1 α own1 (wipeE env own) (I.items.drop (i + 1)) s3 acc2), ?_, ?_⟩
                      · rintro H8 ⟨l8, q8⟩
                        exact ⟨_, by omega, rfl, l8, q8⟩
                      · intro x H8 y
                        obtain ⟨hS8, x8, r8⟩ := w4 x H8 y
                        cases e6 : g1.run I1.items[j] (wipeE env3 own1) with
                        | none => rw [e6] at hp7; exact hp7.elim
                        | some env8 =>
                          simp only [e6] at hp7
                          refine ⟨ρ7, wipeE env3 own1, _, env8, hE7.ext x8, r8, e6, fun σ9 hE9 o9 l9 => ⟨?_, ?_⟩⟩
                          · rw [← wipe_wipe (σ := σ4)]
                            exact wipe_eq l9 fun j hj => o9 j fun z => hj (hsub1 j z)
                          refine ⟨ρ7, env8, s7, hS8, hE9, ?_⟩
                          cases e7 : τ1 env8 s7 with
                          | exc z s5 => simp only [e7] at hp7; exact hp7.elim
                          | stuck => simp only [e7] at hp7; exact hp7.elim
                          | ok k s9 =>
                            simp only [e7] at hp7
                            rintro v ρ9 H9 hS9 x9 rfl
                            cases k with
                            | false =>
                              exact ⟨hl1, ρ9, s9, acc7, vacc7, by rw [x9.off, x8.off.symm.symm]; exact ho7, hS9, hE7.ext (x8.trans x9), (x7.trans x8.zero).trans x9.zero, up (up y7 x8) x9,
                                (x9.frm D _ (x8.frm D _ hd7 (.inl (hS7.offs D hDo7).2)).1 (x8.frm D _ hd7 (.inl (hS7.offs D hDo7).2)).2).1, ra7.ext (x8.trans x9), hp7⟩
                            | true =>
                              refine ⟨ρ9, env8, s9, hS9, hE9.ext x9, ?_⟩
                              simp only at hp7
                              cases e8 : α env8 s9 with
                              | exc z s6 => simp only [e8] at hp7; exact hp7.elim
                              | stuck => simp only [e8] at hp7; exact hp7.elim
                              | ok w s10 =>
                                simp only [e8] at hp7
                                by_cases hz : acc7.length < lim
                                · rw [if_pos hz] at hp7
                                  intro u ρ10 H10 hS10 x10 r10
                                  have x710 := (x8.trans x9).trans x10
                                  have hd10 : H10 D = some (.lst vacc7) := (x710.frm D _ hd7 (.inl (hS7.offs D hDo7).2)).1
                                  have hDo10 : D ∈ ρ10.off := by rw [x710.off]; exact hDo7
                                  have mk : Ext0 Γ ρ10 H10 ρ10 (upd H10 D (.lst (vacc7 ++ [u]))) := Ext0.making hDo10 hd10 trivial
                                  refine ⟨vacc7, hd10, by rw [ra7.len]; exact hz, hl1, ρ10, s10, acc7 ++ [w], vacc7 ++ [u], by rw [x710.off]; exact ho7, hS10.making hDo10 hd10 trivial, (hE7.ext x710).ext0 mk, (x7.trans x710.zero).trans mk, ?_, upd_same, (ra7.ext x710).ext0 mk |>.app (RepL.one (r10.ext0 mk)), hp7⟩
                                  have y10 := up y7 x710
                                  exact ⟨y10.pre, fun a vs q => SqT.upd_mut hd10 trivial (y10.tup a vs q), fun a o q n => let ⟨q1, n1⟩ := y10.frm a o q n; ⟨by rw [upd_ne (ne_of_none q hD0)]; exact q1, n1⟩, rfl⟩
                                · rw [if_neg hz] at hp7; exact hp7.elim
                    · rw [if_neg hG1] at hp7; exact hp7.elim
                  · have ej : j = I1.items.length := by omega
                    subst ej
                    rw [List.drop_length] at hp7
                    unfold lcGo at hp7
                    by_cases hG1 : I1.guard s7
                    · rw [if_pos hG1, bind_ok] at hp7
                      exact .inl ⟨wk1.stop ρ7 H7 s7 hS7 x7 hG1, hl, ρ7, s7, acc7, vacc7, ho7, hS7, (hE2.ext x36).ext0 x7, (x2.trans x36.zero).trans x7, y7, hd7, ra7, hp7⟩
                    · rw [if_neg hG1] at hp7; exact hp7.elim
      · rw [if_neg hG] at hp2; exact hp2.elim
    · have ei : i = I.items.length := by omega
      subst ei
      rw [List.drop_length] at hp2
      unfold lc2Go at hp2
      by_cases hG : I.guard s2
      · rw [if_pos hG] at hp2
        refine .inl ⟨wk.stop ρ2 H' s2 hS2 x2 hG, hp2 D vacc ⟨ρ2.at_, ρ.off, ρ2.fz⟩ H' ⟨hD0, hd2, (hS2.offs D hDo).2, hS.new_no hD0, hS2.done ho2, hS2.doneAdd ho2 (hS.new_no hD0) hd2 ra2, y2, ?_⟩⟩
        exact RepL.cut (ρ := ρ2) (ρ' := ⟨ρ2.at_, ρ.off, ρ2.fz⟩) (n := ρ2.at_.length) (fun _ _ _ q => q) (done_hs ho2) ra2.bd ra2
      · rw [if_neg hG] at hp2; exact hp2.elim
theorem l_lc2 {tg iter tg1 iter1 : Expr} {ifs ifs1 : List Expr} {scope : Scope} {own : List (Str × Nat)} {own1 : List Nat} {ι ι1 : II} {g g1 : Tg} (hc : X.calm = true) (hN : X.N.Nodup) (hi : PI X tg iter (rdI Γ Z ι)) (ok : BlkOk X.N X.env.scope scope own)
    (hg : ∀ (s : Shared) (H : Hp) (C : Addr) (cl : List (Str × Addr)) (fp : List Addr), PG (X.blk s H scope (compEnvC scope cl C X.env) fp) tg (rdG Γ g)) (ht : ∀ (s : Shared) (H : Hp) (C : Addr) (cl : List (Str × Addr)) (fp : List Addr), PTs (X.blk s H scope (compEnvC scope cl C X.env) fp) ifs (rdT Γ Z0 τ))
    (hi1 : ∀ (s : Shared) (H : Hp) (C : Addr) (cl : List (Str × Addr)) (fp : List Addr), PI (X.blk s H scope (compEnvC scope cl C X.env) fp) tg1 iter1 (rdI Γ Z0 ι1))
    (hg1 : ∀ (s : Shared) (H : Hp) (C : Addr) (cl : List (Str × Addr)) (fp : List Addr), PG (X.blk s H scope (compEnvC scope cl C X.env) fp) tg1 (rdG Γ g1)) (ht1 : ∀ (s : Shared) (H : Hp) (C : Addr) (cl : List (Str × Addr)) (fp : List Addr), PTs (X.blk s H scope (compEnvC scope cl C X.env) fp) ifs1 (rdT Γ Z0 τ1))
    (he : ∀ (s : Shared) (H : Hp) (C : Addr) (cl : List (Str × Addr)) (fp : List Addr), PE (X.blk s H scope (compEnvC scope cl C X.env) fp) e (rd Γ Z0 α)) (hv : ∀ i ∈ own1, i ∈ own.map (·.2) := by decide) (hsub : ∀ j, j ∈ g.slots → j ∈ own.map (·.2) := by decide) (hsub1 : ∀ j, j ∈ g1.slots → j ∈ own1 := by decide) (hs : ∀ x, foldedSetIterable iter X.env x = pure x := by intro _; rfl) (hs1 : ∀ env x, foldedSetIterable iter1 env x = pure x := by intro _ _; rfl) :
    PE X (.ListComp e [⟨tg, iter, ifs, 0⟩, ⟨tg1, iter1, ifs1, 0⟩] scope pos) (rdL Γ Z (lLC2 ι g τ ι1 g1 τ1 α (own.map (·.2)) own1)) :=
  PE.imp (pe_lc2 hc hN hi ok hv hg ht hi1 hg1 ht1 he hs hs1) fun _ _ _ h => rd_lc2 hsub hsub1 h
theorem s_setLc2 {i : Nat} {y : Str} {py spos : Pos} {elt tg iter tg1 iter1 : Expr} {ifs ifs1 : List Expr} {scope : Scope} {own : List (Str × Nat)} {own1 : List Nat} {ι ι1 : II} {g g1 : Tg} {wrap : IL → IE} (hw : ∀ (l : IL) σ H Q, rd Γ Z (wrap l) σ H Q → rdL Γ Z l σ H Q) (hc : X.calm = true) (hN : X.N.Nodup) (hy : X.N[i]? = some y) (hyl : X.env.scope.names.lookup y = some .local)
    (hsw : swapsWith (.ListComp elt [⟨tg, iter, ifs, 0⟩, ⟨tg1, iter1, ifs1, 0⟩] scope pos) (some (.Name y py)) spos.line X.env = pure true) (hi : PI X tg iter (rdI Γ Z ι)) (ok : BlkOk X.N X.env.scope scope own)
    (hg : ∀ (s : Shared) (H : Hp) (C : Addr) (cl : List (Str × Addr)) (fp : List Addr), PG (X.blk s H scope (compEnvC scope cl C X.env) fp) tg (rdG Γ g)) (ht : ∀ (s : Shared) (H : Hp) (C : Addr) (cl : List (Str × Addr)) (fp : List Addr), PTs (X.blk s H scope (compEnvC scope cl C X.env) fp) ifs (rdT Γ Z0 τ))
    (hi1 : ∀ (s : Shared) (H : Hp) (C : Addr) (cl : List (Str × Addr)) (fp : List Addr), PI (X.blk s H scope (compEnvC scope cl C X.env) fp) tg1 iter1 (rdI Γ Z0 ι1))
    (hg1 : ∀ (s : Shared) (H : Hp) (C : Addr) (cl : List (Str × Addr)) (fp : List Addr), PG (X.blk s H scope (compEnvC scope cl C X.env) fp) tg1 (rdG Γ g1)) (ht1 : ∀ (s : Shared) (H : Hp) (C : Addr) (cl : List (Str × Addr)) (fp : List Addr), PTs (X.blk s H scope (compEnvC scope cl C X.env) fp) ifs1 (rdT Γ Z0 τ1))
    (he : ∀ (s : Shared) (H : Hp) (C : Addr) (cl : List (Str × Addr)) (fp : List Addr), PE (X.blk s H scope (compEnvC scope cl C X.env) fp) elt (rd Γ Z0 α)) (hv : ∀ i ∈ own1, i ∈ own.map (·.2) := by decide) (hsub : ∀ j, j ∈ g.slots → j ∈ own.map (·.2) := by decide) (hsub1 : ∀ j, j ∈ g1.slots → j ∈ own1 := by decide) (hs : ∀ x, foldedSetIterable iter X.env x = pure x := by intro _; rfl) (hs1 : ∀ env x, foldedSetIterable iter1 env x = pure x := by intro _ _; rfl) :
    PS X (.Assign [.Name y py] (.ListComp elt [⟨tg, iter, ifs, 0⟩, ⟨tg1, iter1, ifs1, 0⟩] scope pos) spos) (rdS Γ Z (sSet i (wrap (lLC2 ι g τ ι1 g1 τ1 α (own.map (·.2)) own1)))) :=
  PS.imp (ps_setLc2 hc hN hy hyl hsw hi ok hv hg ht hi1 hg1 ht1 he hs hs1) fun D σ H h => rd_lc2 hsub hsub1 (hw _ _ _ _ (rd_asg h))
end
end M

-- SetS2
set_option Elab.async false
set_option autoImplicit false
set_option linter.all false
set_option maxRecDepth 100000
namespace M
/-- how many different texts -/
def cntN (xs : List (List Nat)) : Nat → Nat
  | 0 => 0
  | i + 1 => if (xs.take i).contains (xs.getD i []) = true then cntN xs i else cntN xs i + 1
def strsOf : List W → Option (List (List Nat))
  | [] => some []
  | .str s :: r => (strsOf r).map (s :: ·)
  | _ :: _ => none
/-- len(set(xs)), xs a list or tuple of texts -/
@[simp] def eLenSet (a : IE) : IE := fun env st => (a env st).bind fun x s => match (seqOf s x).bind strsOf with
  | some xs => if xs.length < 4000 then .ok (.int (cntN xs xs.length)) s else .stuck
  | none => .stuck
theorem cps_inj {x y : PySem.Str} : x.cps.toList = y.cps.toList ↔ x = y := by
  constructor
  · intro h
    have hc : x.cps = y.cps := Array.toList_inj.mp h
    cases x; cases y
    simp only at hc
    rw [hc]
  · rintro rfl; rfl
theorem cntS_eq (ys : List PySem.Str) : ∀ i, i ≤ ys.length → cntS ys i = cntN (ys.map fun y => y.cps.toList) i
  | 0, _ => rfl
  | i + 1, h => by
    have ih := cntS_eq ys i (by omega)
    unfold cntS cntN
    rw [ih]
    have e : ((ys.take i).any (· == ys.getD i PySem.Str.empty)) = (((ys.map fun y => y.cps.toList).take i).contains ((ys.map fun y => y.cps.toList).getD i [])) := by
      have e1 : ys.getD i PySem.Str.empty = ys[i]'(by omega) := by rw [List.getD_eq_getElem?_getD, List.getElem?_eq_getElem (by omega)]; rfl
      have e2 : (ys.map fun y => y.cps.toList).getD i [] = (ys[i]'(by omega)).cps.toList := by
        rw [List.getD_eq_getElem?_getD, List.getElem?_eq_getElem (by simp; omega)]; simp
      rw [e1, e2, Bool.eq_iff_iff]
      simp only [List.any_eq_true, beq_iff_eq, List.contains_iff_mem, ← List.map_take, List.mem_map]
      constructor
      · rintro ⟨y, hy, rfl⟩; exact ⟨_, hy, rfl⟩
      · rintro ⟨y, hy, e⟩; exact ⟨y, hy, cps_inj.1 e⟩
    rw [e]
open PySem L2 PySem.Spec PyProof.Rows
section
variable {Γ : Gm} {Z : WX} {X : Cx} {α : IE}
theorem strs_V {ρ : Pl} {H : Hp} : ∀ {ws : List W} {vs : List V} {xs : List (List Nat)}, RepL Γ ρ H ws vs → strsOf ws = some xs → ∃ ys : List Str, vs = ys.map V.str ∧ xs = ys.map fun y => y.cps.toList
  | [], _, _, h, e => by cases h; cases e; exact ⟨[], rfl, rfl⟩
  | w :: ws, _, xs, h, e => by
    obtain ⟨v, r, rfl, a, b⟩ := h
    cases w with
    | str s =>
      simp only [strsOf] at e
      cases e1 : strsOf ws with
      | none => rw [e1] at e; cases e
      | some q =>
        rw [e1] at e; cases e
        obtain ⟨ys, rfl, rfl⟩ := strs_V b e1
        obtain ⟨x, rfl, rfl⟩ := a
        exact ⟨x :: ys, rfl, rfl⟩
    | _ => cases e
def tLenSetS (K : PySem.W.Frag) (ta : TE) : TE := fun σ H Q => ta σ H fun x H1 => ∃ l, ∃ xs : List Str, x = .ref l ∧ (SqL K H1 l (xs.map V.str) ∨ SqT K H1 l (xs.map V.str)) ∧ xs.length < 4000 ∧ Q (.int (cntS xs xs.length : Nat)) H1
theorem pe_lenSetS {a : Expr} {ta : TE} {p p2 q pos : Pos} (hc : X.calm = true) (hg : Gl X "len") (hm : X.mg "len" = none) (hg2 : Gl X "set") (hm2 : X.mg "set" = none) (ha : PE X a ta)
    (na : starEach [a] X.env = (false, eval a X.env) :: starEach [] X.env := by rfl) : PE X (.Call (.Name "len" p) [.Call (.Name "set" p2) [a] [] q] [] pos) (tLenSetS X.K ta) := by
  refine ⟨fun pins s σ H Q I h => ?_⟩
  refine Call_ (ld_blt I hg hm boot_len ?_)
  refine PyProof.Rows.callWith_builtin1 (PyProof.Rows.args_cons ?_ rfl) rfl rfl
  refine Call_ (ld_blt I hg2 hm2 boot_set ?_)
  refine PyProof.Rows.callWith_type1 (PyProof.Rows.args_cons (thn (ha.run pins s σ H _ I h) fun v s1 ⟨x, H1, I1, r1, q1⟩ => PyProof.Rows.args_nil ?_) na) na rfl
  obtain ⟨l, xs, rfl, hq, h1, q1⟩ := q1
  cases r1
  have fin : ∀ (its : List Value), Vals (xs.map V.str) its → ∀ (h' : Heap) (tk : Nat), h'.SetOf (PySem.strKind X.prog X.w) s1.heap.objs.size (fun k' => (xs.take its.toArray.size).any (· == k')) (cntS xs its.toArray.size) →
      (∀ b o, b < s1.heap.objs.size → s1.heap.get? b = some o → h'.get? b = some o) →
      wpAny (model X.prog X.w) X.A (spliced (backTo pos (starEach [] X.env))) (fun vs s₂ => wpAny (model X.prog X.w) X.A (call (.builtin "len") (Value.ref s1.heap.objs.size :: vs)) (EP X pins σ Q) X.xe s₂) X.xe { s1 with heap := h', toks := tk } := fun its r h' tk hS hk => by
    refine PyProof.Rows.args_nil ?_
    have hl : its.toArray.size = xs.length := by rw [List.size_toArray, ← r.length, List.length_map]
    rw [hl] at hS
    have hle := cntS_le xs xs.length
    obtain ⟨o, es, ep, t, ho, hex, hd, _, _, _, hf, hn⟩ := hS
    have I2 : Inv X pins σ H1 { s1 with heap := h', toks := tk } := I1.kept fun b o e => hk b o (Heap.lt_size e) e
    refine call_len_set ho hex hd hf (by rw [hn] <;> omega) ⟨.int (cntS xs xs.length : Nat), H1, I2.tok _, ⟨_, by rw [hn]⟩, q1⟩
  rcases hq with hq | hq
  · obtain ⟨its, r, pl, hz⟩ := I1.list hq
    exact call_setS (I1.ok.hd hc) pl.isList (by simpa using strsAre_of r) (by unfold scanBound; omega) fun h' tk hS hk => fin its r h' tk hS hk
  · obtain ⟨its, r, pl, hz⟩ := I1.tuple hq
    exact call_setT (I1.ok.hd hc) (show s1.heap.IsTuple l its.toArray from pl) (by simpa using strsAre_of r) (by unfold scanBound; omega) fun h' tk hS hk => fin its r h' tk hS hk
theorem i_lenSet {a : Expr} {p p2 q pos : Pos} (hc : X.calm = true) (hK : X.K = Γ.K) (hm : X.mg "len" = none) (hm2 : X.mg "set" = none) (ha : PE X a (rd Γ Z α)) (hg : Gl X "len" := by rfl) (hg2 : Gl X "set" := by rfl)
    (na : starEach [a] X.env = (false, eval a X.env) :: starEach [] X.env := by rfl) : PE X (.Call (.Name "len" p) [.Call (.Name "set" p2) [a] [] q] [] pos) (rd Γ Z (eLenSet α)) := by
  refine PE.imp (pe_lenSetS hc hg hm hg2 hm2 ha na) ?_
  rintro σ H Q ⟨ρ, env, st, hS, hE, h⟩
  unfold eLenSet at h
  refine ⟨ρ, env, st, hS, hE, (Post.bind h).mono ?_⟩
  rintro v H1 ⟨w, s1, ρ1, e1, hS1, x1, r1, h1⟩
  cases e2 : seqOf s1 w with
  | none => rw [e2] at h1; exact h1.elim
  | some ws =>
    rw [e2] at h1
    simp only [Option.bind_some] at h1
    cases e3 : strsOf ws with
    | none => rw [e3] at h1; exact h1.elim
    | some xs =>
      rw [e3] at h1
      simp only at h1
      split at h1
      · rename_i hl
        obtain ⟨t, a, vs, rfl, hq, rl, _⟩ := seqOf_rep hS1 r1 e2
        obtain ⟨ys, rfl, rfl⟩ := strs_V rl e3
        rw [List.length_map] at hl h1
        refine ⟨a, ys, rfl, by rw [hK]; cases t; exact .inl hq; exact .inr hq, hl, ?_⟩
        rw [cntS_eq ys ys.length (Nat.le_refl _)]
        exact h1 _ ρ1 H1 hS1 .refl rfl
      · exact h1.elim
end
end M

-- Sound16
set_option Elab.async false
set_option autoImplicit false
set_option linter.all false
set_option maxRecDepth 100000
/-! data in order: sorted, min and max of data, default= -/
namespace M
open PySem L2
mutual
/-- data without lists -/
def W.pure : W → Bool
  | .non => true
  | .bl _ => true
  | .int _ => true
  | .str _ => true
  | .tup ws => pureL ws
  | _ => false
def pureL : List W → Bool
  | [] => true
  | w :: ws => w.pure && pureL ws
end
mutual
theorem toP_inj : ∀ {a b : W}, a.pure = true → b.pure = true → toP a = toP b → a = b
  | .non, b, _, h, e => by cases b <;> first | rfl | (simp [W.pure] at h; done) | (simp [toP] at e)
  | .bl x, b, _, h, e => by cases b <;> first | (simp [W.pure] at h; done) | (simp [toP] at e; done) | (simp only [toP, PyData.bool.injEq] at e; rw [e])
  | .int x, b, _, h, e => by cases b <;> first | (simp [W.pure] at h; done) | (simp [toP] at e; done) | (simp only [toP, PyData.int.injEq] at e; rw [e])
  | .str x, b, _, h, e => by
    cases b <;> first | (simp [W.pure] at h; done) | (simp [toP] at e; done) | skip
    rename_i y
    simp only [toP, PyData.str.injEq, Str.mk.injEq] at e
    have : x.toArray.toList = y.toArray.toList := by rw [e]
    simp at this; rw [this]
  | .tup x, b, g, h, e => by
    cases b <;> first | (simp [W.pure] at h; done) | (simp [toP] at e; done) | skip
    rename_i y
    simp only [toP, PyData.tuple.injEq] at e
    rw [toPL_inj (by simpa [W.pure] using g) (by simpa [W.pure] using h) e]
  | .lst _, _, g, _, _ => by simp [W.pure] at g
  | .ro _, _, g, _, _ => by simp [W.pure] at g
  | .dct _ _, _, g, _, _ => by simp [W.pure] at g
  | .ob _ _ _, _, g, _, _ => by simp [W.pure] at g
  | .loc _, _, g, _, _ => by simp [W.pure] at g
  | .exv _ _ _ _, _, g, _, _ => by simp [W.pure] at g
  | .rng _ _, _, g, _, _ => by simp [W.pure] at g
  | .dctP _ _, _, g, _, _ => by simp [W.pure] at g
theorem toPL_inj : ∀ {a b : List W}, pureL a = true → pureL b = true → toPL a = toPL b → a = b
  | [], [], _, _, _ => rfl
  | [], _ :: _, _, _, e => by simp [toPL] at e
  | _ :: _, [], _, _, e => by simp [toPL] at e
  | x :: a, y :: b, g, h, e => by
    simp only [pureL, Bool.and_eq_true] at g h
    simp only [toPL, List.cons.injEq] at e
    rw [toP_inj g.1 h.1 e.1, toPL_inj g.2 h.2 e.2]
end
theorem toPL_map : ∀ ws : List W, toPL ws = ws.map toP
  | [] => rfl
  | w :: ws => by simp [toPL, toPL_map ws]
/-- x < y -/
noncomputable def ltW (x y : W) : Bool := PySem.W.dataLt (toP x) (toP y)
noncomputable def leW (x y : W) : Bool := PySem.W.dataLe false toP x y
/-- what may be put in order -/
def OrdOk (ws : List W) : Prop := (∀ w ∈ ws, w.pure = true ∧ w.okD 60 = true) ∧ (∀ w ∈ ws, ∀ u ∈ ws, PySem.W.alike (toP w) (toP u) = true) ∧ PySem.W.Sortable (ws.map toP) ∧ ws.length ≤ lim
def MinOk (ws : List W) : Prop := (∀ w ∈ ws, w.pure = true ∧ w.okD 60 = true ∧ toP w ≠ .none) ∧ (∀ w ∈ ws, ∀ u ∈ ws, PySem.W.alike (toP w) (toP u) = true)
open Classical in
/-- sorted(xs) of data: a new list -/
noncomputable def lSortD (a : IE) : IL := fun env st => (a env st).bind fun x s => match lstOf s x with
  | some ws => if OrdOk ws then .ok (ws.mergeSort leW) s else .stuck
  | none => .stuck
/-- the first of the least; of the greatest -/
noncomputable def mnW (w : W) (r : List W) : W := r.foldl (fun a y => if ltW y a = true then y else a) w
noncomputable def mxW (w : W) (r : List W) : W := r.foldl (fun a y => if ltW a y = true then y else a) w
noncomputable def exW (mx : Bool) (w : W) (r : List W) : W := if mx = true then mxW w r else mnW w r
open Classical in
/-- min(xs, default=d), max(xs, default=d) of data -/
noncomputable def eExD (mx : Bool) (a d : IE) : IE := fun env st => (a env st).bind fun x s => (d env s).bind fun y s2 => match lstOf s2 x with
  | some ws => if MinOk ws then (match ws with
    | [] => .ok y s2
    | w :: r => .ok (exW mx w r) s2) else .stuck
  | none => .stuck
open Classical in
noncomputable def eEx1 (mx : Bool) (a : IE) : IE := fun env st => (a env st).bind fun x s => match lstOf s x with
  | some ws => if MinOk ws then (match ws with
    | [] => .stuck
    | w :: r => .ok (exW mx w r) s) else .stuck
  | none => .stuck
section
variable {Γ : Gm} {Z : WX} {X : Cx} {α δ : IE} {e d : Expr} {p pos : Pos}
theorem readsAll_each {h : Heap} : ∀ {vs : List Value} {ds : List PyData} {as : List Addr}, ReadsAll h vs ds as → ∀ (i : Nat) (v : Value) (d : PyData), vs[i]? = some v → ds[i]? = some d → ∃ bs, Reads h v d bs
  | _, _, _, .nil, i, v, d, e, _ => by simp at e
  | _, _, _, .cons r rs, 0, v, d, e1, e2 => by cases e1; cases e2; exact ⟨_, r⟩
  | _, _, _, .cons r rs, i + 1, v, d, e1, e2 => readsAll_each rs i v d (by simpa using e1) (by simpa using e2)
theorem exW_mem (mx : Bool) (w : W) (r : List W) : exW mx w r ∈ w :: r := by
  have key : ∀ (f : W → W → Bool) (r : List W) (w : W), r.foldl (fun a y => if f a y = true then y else a) w ∈ w :: r := by
    intro f r
    induction r with
    | nil => intro w; simp
    | cons y r ih =>
      intro w
      simp only [List.foldl_cons]
      have := ih (if f w y = true then y else w)
      rcases List.mem_cons.1 this with h | h
      · rw [h]; split <;> simp
      · exact List.mem_cons_of_mem _ (List.mem_cons_of_mem _ h)
  unfold exW
  split
  · exact key (fun a y => ltW a y) r w
  · exact key (fun a y => ltW y a) r w
theorem toP_fold (f : PyData → PyData → Bool) (r : List W) (w : W) : toP (r.foldl (fun a y => if f (toP a) (toP y) = true then y else a) w) = (r.map toP).foldl (fun a y => if f a y = true then y else a) (toP w) := by
  induction r generalizing w with
  | nil => rfl
  | cons y r ih =>
    simp only [List.foldl_cons, List.map_cons]
    rw [ih]
    congr 1
    split <;> rfl
/-- the result of min or max as an item of what was there -/
theorem ex_item {mx : Bool} {ρ : Pl} {H : Hp} {s : Shared} {w : W} {r : List W} {vs : List V} {its : List Value} {ds : PyData} {h' : Heap} {i : Nat} {v : Value} {bs as : List Addr}
    (ok : MinOk (w :: r)) (rl : RepL Γ ρ H (w :: r) vs) (rv : Vals vs its) (hr : ReadsAll s.heap its (toP w :: r.map toP) as) (hk : ∀ b o, s.heap.get? b = some o → h'.get? b = some o) (hi : its[i]? = some v) (hd : Reads h' v ds bs)
    (hds : ds = if mx = true then PySem.W.maxD (toP w) (r.map toP) else PySem.W.minD (toP w) (r.map toP)) : ∃ x, RepV Γ ρ H (exW mx w r) x ∧ RelV x v := by
  have e1 : ds = toP (exW mx w r) := by
    rw [hds]
    unfold exW
    cases mx with
    | true => simp only [if_true]; exact (toP_fold (fun a y => PySem.W.dataLt a y) r w).symm
    | false => simp only [Bool.false_eq_true, if_false]; exact (toP_fold (fun a y => PySem.W.dataLt y a) r w).symm
  have hlen : its.length = (w :: r).length := by rw [← rv.length, rl.len]
  have hi' : i < (w :: r).length := by rw [← hlen]; exact (List.getElem?_eq_some_iff.mp hi).1
  obtain ⟨x, hx, rx⟩ := rl.get (List.getElem?_eq_getElem hi')
  obtain ⟨u, hu, ru⟩ := rv.get hx
  rw [hi] at hu; cases hu
  have hwi : (toP w :: r.map toP)[i]? = some (toP ((w :: r)[i])) := by
    rw [← List.map_cons, List.getElem?_map, List.getElem?_eq_getElem hi']; rfl
  obtain ⟨cs, hc⟩ := readsAll_each hr i v _ hi hwi
  have hc' : Reads h' v (toP ((w :: r)[i])) cs := PyProof.Rows.Reads.keeps hk hc
  have e2 : toP ((w :: r)[i]) = toP (exW mx w r) := by rw [← e1]; exact (hc'.unique _ _ hd).1
  have m1 := ok.1 _ (List.getElem_mem hi')
  have m2 := ok.1 _ (exW_mem mx w r)
  rw [← toP_inj m1.1 m2.1 e2]
  exact ⟨x, rx, ru⟩
theorem units_ok {A : Around} {ws : List W} (hu : A.units + 64 < cLine) (ok : MinOk ws) : A.units + 1 + PyData.depthAll (ws.map toP) < cLine := by
  have : okDL ws 60 = true := by
    have := ok.1
    clear ok
    induction ws with
    | nil => rfl
    | cons w ws ih => simp only [okDL, Bool.and_eq_true]; exact ⟨(this w (by simp)).2.1, ih fun u hu => this u (by simp [hu])⟩
  have h := (shpL this).2
  rw [toPL_map] at h
  omega
theorem alike_ok {ws : List W} (ok : MinOk ws) : PySem.W.AlikeAll (ws.map toP) := by
  refine ⟨fun x hx y hy => ?_, fun x hx => ?_⟩
  · obtain ⟨w, hw, rfl⟩ := List.mem_map.1 hx
    obtain ⟨u, hu, rfl⟩ := List.mem_map.1 hy
    exact ok.2 w hw u hu
  · obtain ⟨w, hw, rfl⟩ := List.mem_map.1 hx
    exact (ok.1 w hw).2.2
theorem dpl_ok {ρ : Pl} {H : Hp} {ws : List W} {vs : List V} (ok : ∀ w ∈ ws, w.okD 60 = true) (rl : RepL Γ ρ H ws vs) : DpAll Γ.K H vs (ws.map toP) := by
  have : okDL ws 60 = true := by
    clear rl
    induction ws with
    | nil => rfl
    | cons w ws ih => simp only [okDL, Bool.and_eq_true]; exact ⟨ok w (by simp), ih fun u hu => ok u (by simp [hu])⟩
  have := dpl_of rl this
  rwa [toPL_map] at this
/-- min, max over a list: what is asked of the abstract heap -/
def rExD (Γ : Gm) (mx : Bool) : List V → List V → Hp → VK → Prop := fun vs zs H Q => ∃ (ρ : Pl) (a : Addr) (us : List V) (ws : List W) (y : V), vs = [.ref a] ∧ zs = [y] ∧ SqL Γ.K H a us ∧ RepL Γ ρ H ws us ∧ MinOk ws ∧ (ws = [] → Q y H) ∧ ∀ w r, ws = w :: r → ∀ x, RepV Γ ρ H (exW mx w r) x → Q x H
def rEx1 (Γ : Gm) (mx : Bool) : List V → Hp → VK → Prop := fun vs H Q => ∃ (ρ : Pl) (a : Addr) (us : List V) (w : W) (r : List W), vs = [.ref a] ∧ SqL Γ.K H a us ∧ RepL Γ ρ H (w :: r) us ∧ MinOk (w :: r) ∧ ∀ x, RepV Γ ρ H (exW mx w r) x → Q x H
theorem cr_maxD (hK : X.K = Γ.K) (hc : X.calm = true) (hu : X.A.units + 64 < cLine) : CallRK X (.builtin "max") [Str.ofString "default"] (rExD Γ true) := by
  intro pins s σ H xs zs us ws Q I r1 r2 h
  obtain ⟨ρ, a, vs, wl, y, rfl, rfl, hq, rl, ok, h0, h1⟩ := h
  obtain rfl := Vals.ref1 r1
  obtain ⟨yv, rfl, ry⟩ := vals1 r2
  obtain ⟨its, rv, pl, hz⟩ := I.list (by rw [hK]; exact hq)
  obtain ⟨as, hr⟩ := Dp.readsAll I _ _ _ (by rw [hK]; exact dpl_ok (fun w hw => (ok.1 w hw).2.1) rl) rv
  refine PySem.W.max_list_default (I.ok.hd hc) pl.isList (by simpa using hr) (alike_ok ok) (units_ok hu ok) (fun e h' tk hk => ?_) fun d ds i v h' tk bs e hv hd hk => ?_
  · exact ⟨y, H, I.kept (t' := tk) hk, ry, h0 (List.map_eq_nil_iff.1 e)⟩
  · cases wl with
    | nil => cases e
    | cons w r =>
      simp only [List.map_cons, List.cons.injEq] at e
      obtain ⟨e1, e2⟩ := e
      subst e1; subst e2
      obtain ⟨x, rx, rr⟩ := ex_item (mx := true) ok rl rv (by simpa using hr) hk (by simpa using hv) hd (by simp)
      exact ⟨x, H, I.kept (t' := tk) hk, rr, h1 w r rfl x rx⟩
theorem cr_minD (hK : X.K = Γ.K) (hc : X.calm = true) (hu : X.A.units + 64 < cLine) : CallRK X (.builtin "min") [Str.ofString "default"] (rExD Γ false) := by
  intro pins s σ H xs zs us ws Q I r1 r2 h
  obtain ⟨ρ, a, vs, wl, y, rfl, rfl, hq, rl, ok, h0, h1⟩ := h
  obtain rfl := Vals.ref1 r1
  obtain ⟨yv, rfl, ry⟩ := vals1 r2
  obtain ⟨its, rv, pl, hz⟩ := I.list (by rw [hK]; exact hq)
  obtain ⟨as, hr⟩ := Dp.readsAll I _ _ _ (by rw [hK]; exact dpl_ok (fun w hw => (ok.1 w hw).2.1) rl) rv
  refine PySem.W.min_list_default (I.ok.hd hc) pl.isList (by simpa using hr) (alike_ok ok) (units_ok hu ok) (fun e h' tk hk => ?_) fun d ds i v h' tk bs e hv hd hk => ?_
  · exact ⟨y, H, I.kept (t' := tk) hk, ry, h0 (List.map_eq_nil_iff.1 e)⟩
  · cases wl with
    | nil => cases e
    | cons w r =>
      simp only [List.map_cons, List.cons.injEq] at e
      obtain ⟨e1, e2⟩ := e
      subst e1; subst e2
      obtain ⟨x, rx, rr⟩ := ex_item (mx := false) ok rl rv (by simpa using hr) hk (by simpa using hv) hd (by simp)
      exact ⟨x, H, I.kept (t' := tk) hk, rr, h1 w r rfl x rx⟩
theorem cr_max1 (hK : X.K = Γ.K) (hc : X.calm = true) (hu : X.A.units + 64 < cLine) : CallR X (.builtin "max") (rEx1 Γ true) := by
  intro pins s σ H xs us Q I r1 h
  obtain ⟨ρ, a, vs, w, r, rfl, hq, rl, ok, h1⟩ := h
  obtain rfl := Vals.ref1 r1
  obtain ⟨its, rv, pl, hz⟩ := I.list (by rw [hK]; exact hq)
  obtain ⟨as, hr⟩ := Dp.readsAll I _ _ _ (by rw [hK]; exact dpl_ok (fun w hw => (ok.1 w hw).2.1) rl) rv
  refine PySem.W.max_list_data (x := toP w) (xs := r.map toP) (I.ok.hd hc) pl.isList (by simpa using hr) (alike_ok ok) (units_ok hu ok) fun i v h' tk bs hv hd hk => ?_
  obtain ⟨x, rx, rr⟩ := ex_item (mx := true) ok rl rv (by simpa using hr) hk (by simpa using hv) hd (by simp)
  exact ⟨x, H, I.kept (t' := tk) hk, rr, h1 x rx⟩
theorem cr_min1 (hK : X.K = Γ.K) (hc : X.calm = true) (hu : X.A.units + 64 < cLine) : CallR X (.builtin "min") (rEx1 Γ false) := by
  intro pins s σ H xs us Q I r1 h
  obtain ⟨ρ, a, vs, w, r, rfl, hq, rl, ok, h1⟩ := h
  obtain rfl := Vals.ref1 r1
  obtain ⟨its, rv, pl, hz⟩ := I.list (by rw [hK]; exact hq)
  obtain ⟨as, hr⟩ := Dp.readsAll I _ _ _ (by rw [hK]; exact dpl_ok (fun w hw => (ok.1 w hw).2.1) rl) rv
  refine PySem.W.min_list_data (x := toP w) (xs := r.map toP) (I.ok.hd hc) pl.isList (by simpa using hr) (alike_ok ok) (units_ok hu ok) fun i v h' tk bs hv hd hk => ?_
  obtain ⟨x, rx, rr⟩ := ex_item (mx := false) ok rl rv (by simpa using hr) hk (by simpa using hv) hd (by simp)
  exact ⟨x, H, I.kept (t' := tk) hk, rr, h1 x rx⟩
theorem rd_exD {mx : Bool} {σ : L2.St} {H : Hp} {Q : VK} (h : rd Γ Z (eExD mx α δ) σ H Q) : tCKw (rExD Γ mx) (tCons (rd Γ Z α) tNil) (tCons (rd Γ Z δ) tNil) σ H Q := by
  obtain ⟨ρ, env, st, hS, hE, h⟩ := h
  unfold eExD at h
  refine ⟨ρ, env, st, hS, hE, (Post.bind h).mono ?_⟩
  rintro v H1 ⟨w, s1, ρ1, e1, hS1, x1, r1, h1⟩
  refine ⟨ρ1, env, s1, hS1, hE.ext x1, (Post.bind h1).mono ?_⟩
  rintro y H2 ⟨w2, s2, ρ2, e2, hS2, x2, r2, h2⟩
  cases e3 : lstOf s2 w with
  | none => rw [e3] at h2; exact h2.elim
  | some ws =>
    rw [e3] at h2
    simp only at h2
    split at h2
    · rename_i ok
      obtain ⟨a, us, rfl, hq, rl⟩ := lst_sq hS2 (r1.ext x2) e3
      refine ⟨ρ2, a, us, ws, y, rfl, rfl, hq, rl, ok, fun e => ?_, fun u r e x rx => ?_⟩
      · subst e; exact h2 _ ρ2 H2 hS2 .refl r2
      · subst e; exact h2 _ ρ2 H2 hS2 .refl rx
    · exact h2.elim
theorem i_maxD {kpos : Pos} (hK : X.K = Γ.K) (hc : X.calm = true) (hu : X.A.units + 64 < cLine) (hm : X.mg "max" = none) (ha : PE X e (rd Γ Z α)) (hd : PE X d (rd Γ Z δ)) (hg : Gl X "max" := by rfl) (hv : bootBuiltins "max" = some (.builtin "max") := by decide +kernel)
    (hs : starEach [e] X.env = (false, eval e X.env) :: starEach [] X.env := by rfl) (he : backTo pos (starEach [e] X.env) = (false, eval e X.env) :: backTo pos (starEach [] X.env) := by rfl) (hpl : (backTo pos (starEach [e] X.env)).any (·.1) = false := by rfl)
    (hall : (backToKw pos (keywordEach [⟨some (Str.ofString "default"), d, kpos⟩] X.env)).all (·.1.isSome) = true := by rfl) (hnone : (backToKw pos (keywordEach [⟨some (Str.ofString "default"), d, kpos⟩] X.env)).any (·.1.isNone) = false := by rfl) (hks : (backToKw pos (keywordEach [⟨some (Str.ofString "default"), d, kpos⟩] X.env)).filterMap (·.1) = [Str.ofString "default"] := by rfl) :
    PE X (.Call (.Name "max" p) [e] [⟨some (Str.ofString "default"), d, kpos⟩] pos) (rd Γ Z (eExD true α δ)) :=
  PE.imp (pe_callBK (cr_maxD hK hc hu) hg hm hv (pa_cons ha pa_nil hs) (pk_cons hd pk_nil) (by decide) (by decide) he hpl hall hnone hks) fun σ H Q h => rd_exD h
theorem i_minD {kpos : Pos} (hK : X.K = Γ.K) (hc : X.calm = true) (hu : X.A.units + 64 < cLine) (hm : X.mg "min" = none) (ha : PE X e (rd Γ Z α)) (hd : PE X d (rd Γ Z δ)) (hg : Gl X "min" := by rfl) (hv : bootBuiltins "min" = some (.builtin "min") := by decide +kernel)
    (hs : starEach [e] X.env = (false, eval e X.env) :: starEach [] X.env := by rfl) (he : backTo pos (starEach [e] X.env) = (false, eval e X.env) :: backTo pos (starEach [] X.env) := by rfl) (hpl : (backTo pos (starEach [e] X.env)).any (·.1) = false := by rfl)
    (hall : (backToKw pos (keywordEach [⟨some (Str.ofString "default"), d, kpos⟩] X.env)).all (·.1.isSome) = true := by rfl) (hnone : (backToKw pos (keywordEach [⟨some (Str.ofString "default"), d, kpos⟩] X.env)).any (·.1.isNone) = false := by rfl) (hks : (backToKw pos (keywordEach [⟨some (Str.ofString "default"), d, kpos⟩] X.env)).filterMap (·.1) = [Str.ofString "default"] := by rfl) :
    PE X (.Call (.Name "min" p) [e] [⟨some (Str.ofString "default"), d, kpos⟩] pos) (rd Γ Z (eExD false α δ)) :=
  PE.imp (pe_callBK (cr_minD hK hc hu) hg hm hv (pa_cons ha pa_nil hs) (pk_cons hd pk_nil) (by decide) (by decide) he hpl hall hnone hks) fun σ H Q h => rd_exD h
theorem rd_ex1 {mx : Bool} {σ : L2.St} {H : Hp} {Q : VK} (h : rd Γ Z (eEx1 mx α) σ H Q) : tCB (rEx1 Γ mx) (tCons (rd Γ Z α) tNil) σ H Q := by
  obtain ⟨ρ, env, st, hS, hE, h⟩ := h
  unfold eEx1 at h
  refine ⟨ρ, env, st, hS, hE, (Post.bind h).mono ?_⟩
  rintro v H1 ⟨w, s1, ρ1, e1, hS1, x1, r1, h1⟩
  cases e3 : lstOf s1 w with
  | none => rw [e3] at h1; exact h1.elim
  | some ws =>
    rw [e3] at h1
    simp only at h1
    split at h1
    · rename_i ok
      obtain ⟨a, us, rfl, hq, rl⟩ := lst_sq hS1 r1 e3
      cases ws with
      | nil => exact h1.elim
      | cons u r => exact ⟨ρ1, a, us, u, r, rfl, hq, rl, ok, fun x rx => h1 _ ρ1 H1 hS1 .refl rx⟩
    · exact h1.elim
theorem i_max1 (hK : X.K = Γ.K) (hc : X.calm = true) (hu : X.A.units + 64 < cLine) (hm : X.mg "max" = none) (ha : PE X e (rd Γ Z α)) (hg : Gl X "max" := by rfl) (hv : bootBuiltins "max" = some (.builtin "max") := by decide +kernel)
    (hs : starEach [e] X.env = (false, eval e X.env) :: starEach [] X.env := by rfl) (hpl : (backTo pos (starEach [] X.env)).any (·.1) = false := by rfl) : PE X (.Call (.Name "max" p) [e] [] pos) (rd Γ Z (eEx1 true α)) :=
  PE.imp (pe_callB (cr_max1 hK hc hu) hg hm hv (pa_cons ha pa_nil hs) (by decide) (by decide) hs hpl) fun σ H Q h => rd_ex1 h
theorem i_min1 (hK : X.K = Γ.K) (hc : X.calm = true) (hu : X.A.units + 64 < cLine) (hm : X.mg "min" = none) (ha : PE X e (rd Γ Z α)) (hg : Gl X "min" := by rfl) (hv : bootBuiltins "min" = some (.builtin "min") := by decide +kernel)
    (hs : starEach [e] X.env = (false, eval e X.env) :: starEach [] X.env := by rfl) (hpl : (backTo pos (starEach [] X.env)).any (·.1) = false := by rfl) : PE X (.Call (.Name "min" p) [e] [] pos) (rd Γ Z (eEx1 false α)) :=
  PE.imp (pe_callB (cr_min1 hK hc hu) hg hm hv (pa_cons ha pa_nil hs) (by decide) (by decide) hs hpl) fun σ H Q h => rd_ex1 h
/-! sorted -/
def rSortD (Γ : Gm) : List V → Hp → VK → Prop := fun vs H Q => ∃ (ρ : Pl) (a : Addr) (us : List V) (ws : List W), vs = [.ref a] ∧ SqL Γ.K H a us ∧ RepL Γ ρ H ws us ∧ OrdOk ws ∧ ∀ (us' : List V) (p : Addr), RepL Γ ρ H (ws.mergeSort leW) us' → H p = none → Q (.ref p) (upd H p (.lst us'))
theorem each_of {ρ : Pl} {H : Hp} : ∀ {ws : List W} {vs : List V} {us : List Value}, RepL Γ ρ H ws vs → Vals vs us → PySem.W.EachIs (fun (u : Value) (b : W × V) => RelV b.2 u ∧ RepV Γ ρ H b.1 b.2) us (ws.zip vs)
  | [], _, _, h, r => by cases h; cases r; exact .nil
  | w :: ws, _, _, h, r => by
    obtain ⟨v, t, rfl, a, b⟩ := h
    cases r with
    | cons r1 r2 => exact .cons ⟨r1, a⟩ (each_of b r2)
theorem each_back {ρ : Pl} {H : Hp} : ∀ {bs : List (W × V)} {us : List Value}, PySem.W.EachIs (fun (u : Value) (b : W × V) => RelV b.2 u ∧ RepV Γ ρ H b.1 b.2) us bs → RepL Γ ρ H (bs.map (·.1)) (bs.map (·.2)) ∧ Vals (bs.map (·.2)) us
  | _, _, .nil => ⟨rfl, .nil⟩
  | _, _, .cons h t => ⟨.cons h.2 (each_back t).1, .cons h.1 (each_back t).2⟩
theorem each_reads {ρ : Pl} {H : Hp} {s : Shared} : ∀ {ws : List W} {vs : List V} {us : List Value} {as : List Addr}, RepL Γ ρ H ws vs → Vals vs us → ReadsAll s.heap us (ws.map toP) as → PySem.W.EachIs (fun (u : Value) (b : W × V) => ∃ as, Reads s.heap u (toP b.1) as) us (ws.zip vs)
  | [], _, _, _, h, r, _ => by cases h; cases r; exact .nil
  | w :: ws, _, _, _, h, r, k => by
    obtain ⟨v, t, rfl, a, b⟩ := h
    cases r with
    | cons r1 r2 =>
      cases k with
      | cons k1 k2 => exact .cons ⟨_, k1⟩ (each_reads b r2 k2)
theorem zip_map1 {ws : List W} {vs : List V} (h : vs.length = ws.length) : (ws.zip vs).map (·.1) = ws := by
  rw [List.map_fst_zip]; omega
theorem cr_sortD (hK : X.K = Γ.K) (hu : X.A.units + 64 < cLine) : CallR X (.builtin "sorted") (rSortD Γ) := by
  intro pins s σ H xs us Q I r1 h
  obtain ⟨ρ, a, vs, ws, rfl, hq, rl, ok, h1⟩ := h
  obtain rfl := Vals.ref1 r1
  obtain ⟨its, rv, pl, hz⟩ := I.list (by rw [hK]; exact hq)
  obtain ⟨as, hr⟩ := Dp.readsAll I _ _ _ (by rw [hK]; exact dpl_ok (fun w hw => (ok.1 w hw).2) rl) rv
  have em : (ws.zip vs).map (fun b => toP b.1) = ws.map toP := by
    have := zip_map1 (ws := ws) (vs := vs) rl.len
    rw [show (fun b : W × V => toP b.1) = toP ∘ Prod.fst from rfl, ← List.map_map, this]
  refine PySem.W.sorted_data (enc := fun b : W × V => toP b.1) (R := fun (u : Value) (b : W × V) => RelV b.2 u ∧ RepV Γ ρ H b.1 b.2) pl.isList (each_of rl rv) (each_reads rl rv hr) ?_ ?_ ?_ ?_ fun out hl eo => ?_
  · rw [em]
    intro d hd d' hd'
    obtain ⟨w, hw, rfl⟩ := List.mem_map.1 hd
    obtain ⟨u, hu, rfl⟩ := List.mem_map.1 hd'
    exact ok.2.1 w hw u hu
  · rw [em]; exact ok.2.2.1
  · have := ok.2.2.2
    rw [List.length_zip, rl.len, Nat.min_self]
    exact this
  · rintro b hb
    have hm : b.1 ∈ ws := by
      have : b.1 ∈ (ws.zip vs).map (·.1) := List.mem_map_of_mem hb
      rwa [zip_map1 rl.len] at this
    have := (shp (ok.1 _ hm).2).2
    omega
  · obtain ⟨k1, k2⟩ := each_back eo
    have es : ((ws.zip vs).mergeSort (PySem.W.dataLe false fun b : W × V => toP b.1)).map (·.1) = ws.mergeSort leW := by
      have := List.map_mergeSort (r := PySem.W.dataLe false fun b : W × V => toP b.1) (s := leW) (f := Prod.fst) (l := ws.zip vs) (fun a _ b _ => rfl)
      rw [zip_map1 rl.len] at this
      exact this
    rw [es] at k1
    obtain ⟨ep, he'⟩ := PyProof.Rows.sortedAll_at s.heap its out.toArray
    have hlen : (((ws.zip vs).mergeSort (PySem.W.dataLe false fun b : W × V => toP b.1)).map (·.2)).length ≤ sizeLine := by
      rw [List.length_map, List.length_mergeSort, List.length_zip, rl.len, Nat.min_self]
      exact ok.2.2.2
    have e0 : (out.toArray.toList).toArray = out.toArray := by rw [Array.toArray_toList]
    exact ⟨.ref _, upd H (s.heap.objs.size + 1) (.lst _), I.laid (t' := s.toks) (fun _ _ => PyProof.Rows.sortedAll_old) (Nat.le_succ _) ⟨hlen, _, ep, k2, he'⟩, rfl, h1 _ _ k1 (I.hok.fresh (Nat.le_succ _))⟩
theorem l_sortD (hK : X.K = Γ.K) (hu : X.A.units + 64 < cLine) (hm : X.mg "sorted" = none) (ha : PE X e (rd Γ Z α)) (hg : Gl X "sorted" := by rfl) (hv : bootBuiltins "sorted" = some (.builtin "sorted") := by decide +kernel)
    (hs : starEach [e] X.env = (false, eval e X.env) :: starEach [] X.env := by rfl) (hpl : (backTo pos (starEach [] X.env)).any (·.1) = false := by rfl) : PE X (.Call (.Name "sorted" p) [e] [] pos) (rdL Γ Z (lSortD α)) := by
  refine PE.imp (pe_callB (cr_sortD hK hu) hg hm hv (pa_cons ha pa_nil hs) (by decide) (by decide) hs hpl) ?_
  rintro σ H Q ⟨ρ, env, st, hS, hE, hp⟩
  refine ⟨ρ, env, st, hS, hE, (Post.bindL hS hp).mono ?_⟩
  rintro v H1 ⟨w, s1, ρ1, e1, hS1, x1, r1, h1⟩
  cases e2 : lstOf s1 w with
  | none => rw [e2] at h1; exact h1.elim
  | some ws =>
    rw [e2] at h1
    simp only at h1
    split at h1
    · rename_i ok
      obtain ⟨a, us, rfl, hq, rl⟩ := lst_sq hS1 r1 e2
      exact ⟨ρ1, a, us, ws, rfl, hq, rl, ok, fun us' l rr hl => h1 l us' ρ1 _ (Fresh.of hS1 hl rr)⟩
    · exact h1.elim
end
end M

-- Sound17
set_option Elab.async false
set_option autoImplicit false
set_option linter.all false
set_option maxRecDepth 100000
/-! stars in displays at any place -/
namespace M
/-- an item, then what follows -/
@[simp] def eArgsC (a : IE) (l : IL) : IL := fun env st => (a env st).bind fun x s1 => (l env s1).bind fun xs s2 => .ok (x :: xs) s2
@[simp] def eTupL (l : IL) : IE := fun env st => (l env st).bind fun xs s => if xs.length ≤ lim then .ok (.tup xs) s else .stuck
@[simp] def lArgL (l : IL) : IL := fun env st => (l env st).bind fun xs s => if xs.length ≤ lim then .ok xs s else .stuck
open PySem L2
section
variable {Γ : Gm} {Z : WX} {X : Cx} {a : Expr} {es : List Expr} {pos : Pos} {α : IE}
theorem a_consC {l : IL} (ha : PE X a (rd Γ Z α)) (hr : PA X es (rdA Γ Z l)) (hs : starEach (a :: es) X.env = (false, eval a X.env) :: starEach es X.env := by rfl) : PA X (a :: es) (rdA Γ Z (eArgsC α l)) := by
  refine PA.imp (pa_cons ha hr hs) ?_
  rintro σ H Q ⟨ρ, env, st, hS, hE, h⟩
  refine ⟨ρ, env, st, hS, hE, (Post.bind h).mono ?_⟩
  rintro v H1 ⟨w, s1, ρ1, e1, hS1, x1, r1, h1⟩
  refine ⟨ρ1, env, s1, hS1, hE.ext x1, (Post.bind h1).mono ?_⟩
  rintro u H2 ⟨w2, s2, ρ2, e2, hS2, x2, r2, h2⟩
  exact h2 (v :: u) ρ2 H2 hS2 .refl (.cons (r1.ext x2) r2)
theorem i_tupL {l : IL} {x1} (h : PA X es (rdA Γ Z l)) : PE X (.Tuple es x1 pos) (rd Γ Z (eTupL l)) := by
  refine PE.imp (pe_tup h) ?_
  rintro σ H Q ⟨ρ, env, st, hS, hE, h⟩
  refine ⟨ρ, env, st, hS, hE, (Post.bind h).mono ?_⟩
  rintro v H1 ⟨w, s1, ρ1, e1, hS1, x1, r1, h1⟩
  split at h1
  · rename_i hl
    refine ⟨by rw [r1.len]; exact hl, fun p hp => ?_⟩
    exact h1 (.ref p) ρ1 _ (hS1.free hp) (.free hp) ⟨p, v, rfl, .of upd_same, r1.ext (.free hp)⟩
  · exact h1.elim
theorem l_lstL {l : IL} (h : PA X es (rdA Γ Z l)) : PE X (.List es pos) (rdL Γ Z (lArgL l)) := by
  refine PE.imp (pe_lst h) ?_
  rintro σ H Q ⟨ρ, env, st, hS, hE, h⟩
  refine ⟨ρ, env, st, hS, hE, (Post.bindL hS h).mono ?_⟩
  rintro v H1 ⟨w, s1, ρ1, e1, hS1, x1, r1, h1⟩
  split at h1
  · rename_i hl
    refine ⟨by rw [r1.len]; exact hl, fun p hp => ?_⟩
    exact h1 p v ρ1 _ (Fresh.of hS1 hp r1)
  · exact h1.elim
end
end M

-- Sound18
set_option Elab.async false
set_option autoImplicit false
set_option linter.all false
set_option maxRecDepth 100000
/-! exceptions with a field -/
namespace M
open PySem L2
section
variable {Γ : Gm} {Z : WX} {X : Cx} {α : IE}
/-- e.f, a field of the exception that the suite holds -/
theorem i_exF {a : Addr} {oe : Obj} {d : Option Addr} {pn : List (Addr × Obj)} {k f : String} {C : Addr} {e : Expr} {pos : Pos} (T : XfC X.K C) (hno : PySem.W.findIn X.K (.ref C) (Str.ofString f) = some none) (hz : Zc (.ref C) d oe) (hf : ∃ vs, oe.data = .fields vs)
    (ha : PE (X.suite a ((a, oe) :: pn)) e (rd Γ Z0 α)) (hb : attributeBase e (Str.ofString f) X.env (eval e X.env) = eval e X.env := by rfl) :
    PE (X.suite a ((a, oe) :: pn)) (.Attribute e (Str.ofString f) pos) (rd Γ Z0 (eExF a d k f α)) := by
  refine PE.imp (pe_xf T hno hz hf ha hb) ?_
  rintro σ H Q ⟨ρ, env, st, hS, hE, hp⟩
  unfold eExF at hp
  refine ⟨ρ, env, st, hS, hE, (Post.bind hp).mono ?_⟩
  rintro v H1 ⟨w, s1, ρ1, e1, hS1, x1, r1, h1⟩
  cases w with
  | exv a' c' f' ws' =>
    cases f' with
    | none => exact h1.elim
    | some q =>
      obtain ⟨d', ns⟩ := q
      simp only at h1
      split at h1
      · rename_i hh
        obtain ⟨rfl, rfl, rfl⟩ := hh
        obtain ⟨rfl, gs, hv, hn, rl⟩ := r1
        cases e2 : (ns.zip ws').lookup f with
        | none => rw [e2] at h1; exact h1.elim
        | some w =>
          rw [e2] at h1
          obtain ⟨v, l, rv⟩ := lookup_rep hn rl e2
          exact ⟨rfl, rfl, d', gs, v, rfl, hv.1, l, h1 v ρ1 H1 hS1 .refl rv⟩
      · exact h1.elim
  | _ => exact h1.elim
/-- what an own exception's __init__ keeps: it stores its argument as f -/
def spX (C : Addr) (f : Str) : Sp := fun vs H Q E => vs.length = 2 ∧ ∃ a y, vs = [.ref a, y] ∧ H a = some (exo a C none) ∧ ∀ dx, H dx = none → dx ≠ a → Q .non (upd (upd H dx (exd dx [(f, y)])) a (exo a C (some dx)))
theorem fn_initX {P : Program} {wo : World} {K : PySem.W.Frag} {mg : Str → Option Value} {base : Heap} {x qual : Str} {st : Stmt} {fa C : Addr} {fd : FuncData} {k : Nat} {f y : Str} {p1 p2 p3 p4 : Pos} (F : Fun K x qual st fa fd) (S : FnScope ["self", y] ["self", y] (defScope st))
    (hb : defBody st = [.Assign [.Attribute (.Name "self" p1) f p2] (.Name y p3) p4]) (T : OexC K C) (hno : PySem.W.findIn K (.ref C) f = some none) (hy : (y == ("__debug__" : Str)) = false) (hy2 : (y == ("__classdict__" : Str)) = false)
    (v1 : ∀ (cdv : Value) (A : Around) (outer : List PySem.Env) (s : Shared) (H : Hp) (E : XK), Vis (cxOf (L2.CX P wo) P wo K mg base ["self", y] qual (defScope st) fa cdv A outer s H E).env.scope "self")
    (v2 : ∀ (cdv : Value) (A : Around) (outer : List PySem.Env) (s : Shared) (H : Hp) (E : XK), Vis (cxOf (L2.CX P wo) P wo K mg base ["self", y] qual (defScope st) fa cdv A outer s H E).env.scope y)
    (hs : ∀ (cdv : Value) (A : Around) (outer : List PySem.Env) (s : Shared) (H : Hp) (E : XK), swapsWith (.Name y p3) (some (.Attribute (.Name "self" p1) f p2)) p4.line (cxOf (L2.CX P wo) P wo K mg base ["self", y] qual (defScope st) fa cdv A outer s H E).env = pure false) :
    FnOk P wo K mg base (L2.CX P wo) (k + 1) fa fd ["self", y] (spX C f) := by
  refine F.okX S (fun vs H Q E h => h.1) (fun cdv A outer s H vs Q E hr h => ?_)
  obtain ⟨hl, a, u, rfl, ea, q⟩ := h
  rw [hb]
  refine ⟨_, pss_one (ps_ost (pe_var (i := 0) rfl (v1 cdv A outer s H E) (by decide) (by decide)) (pe_var (i := 1) rfl (v2 cdv A outer s H E) hy hy2) (hs cdv A outer s H E)), ?_⟩
  refine ⟨u, rfl, .ref a, rfl, a, C, rfl, T, hno, .inl ⟨ea, fun dx n ne => ?_⟩⟩
  exact q dx n ne
theorem s_raiseF {cn f : String} {C fI : Addr} {fd : FuncData} {k : Nat} {y x : Str} {e : Expr} {p pos pos' : Pos} (hc : X.calm = true) (tk : Takes X Z) (T : OexC X.K C) (iC : PySem.W.findIn X.K (.ref C) "__init__" = some (some (.ref fI))) (tI : PySem.W.typeIn X.K (.ref fI) = some (.type "function"))
    (F1 : FnOk X.prog X.w X.K X.mg X.base (L2.CX X.prog X.w) k fI fd ["self", y] (spX C (Str.ofString f))) (hr : Room (k + 1) X.A) (hb : Binds X.K fd ["self", y] []) (hm : X.mg x = some (.ref C)) (ha : PE X e (rd Γ Z α)) (hcl : Γ.cl cn = some (.ref C)) (hg : Gl X x := by rfl) (hdb : (x == ("__debug__" : Str)) = false := by decide)
    (hs : starEach [e] X.env = (false, eval e X.env) :: starEach [] X.env := by rfl) (hpl : (backTo pos (starEach [] X.env)).any (·.1) = false := by rfl) :
    PS X (.Raise (some (.Call (.Name x p) [e] [] pos)) none pos') (rdS Γ Z (sRaiseF cn f α)) := by
  refine PS.imp (ps_raise hc tk (pmk_oex T iC tI F1 hr hb .nil (fun _ _ _ _ _ _ _ h => by
    obtain ⟨_, _, _, _, _, _, _, _, _, _, _, _, z⟩ := h
    exact z.elim) hg hm (pa_cons ha pa_nil hs) hdb hs hpl)) ?_
  rintro D σ H ⟨ρ, env, st, hS, hE, h⟩
  refine ⟨ρ, env, st, hS, hE, ?_⟩
  unfold sRaiseF at h
  cases e1 : α env st with
  | stuck => rw [e1] at h; exact h
  | exc z s1 => rw [e1] at h; exact fun ρ' H' c d a y r => h σ ρ' H' c d a y (hE.ext y) r
  | ok w s1 =>
    rw [e1] at h
    intro v ρ1 H1 hS1 x1 r1
    refine ⟨by simp, fun a hn => ⟨rfl, a, v, rfl, upd_same, fun dx n ne => ?_⟩⟩
    have n1 : H1 dx = none := by rwa [upd_ne ne] at n
    refine ⟨rfl, dx, [(Str.ofString f, v)], upd_same, by rw [upd_ne ne, upd_same], n1, ?_⟩
    have eq : upd (del (upd (upd (upd H1 a (exo a C none)) dx (exd dx [(Str.ofString f, v)])) a (exo a C (some dx))) a) dx (.xd [(Str.ofString f, v)]) = upd H1 dx (.xd [(Str.ofString f, v)]) := by
      funext b
      by_cases h1 : b = dx
      · subst h1; rw [upd_same, upd_same]
      · rw [upd_ne h1, upd_ne h1]
        by_cases h2 : b = a
        · subst h2; rw [del_same, hn]
        · rw [del_ne h2, upd_ne h2, upd_ne h1, upd_ne h2]
    rw [eq]
    exact h σ ρ1 _ (.ref C) (some dx) (hS1.free n1) (x1.trans (.free n1)) (hE.ext (x1.trans (.free n1))) ⟨hcl, dx, _, rfl, upd_same, rfl, .one (r1.ext (.free n1))⟩
end
end M

-- Sound19
set_option Elab.async false
set_option autoImplicit false
set_option linter.all false
set_option maxRecDepth 100000
/-! objects: fields, methods, making -/
namespace M
open Classical
/-- a field of an object of the class c -/
def fldW (st : Store) (c f : String) (x : W) : Option W := match x with
  | .ob k ns ws => if k = c then (ns.zip ws).lookup f else none
  | .loc n => match st[n]? with
    | some (.obj k fs) => if k = c then fs.lookup f else none
    | _ => none
  | _ => none
noncomputable def eAttr (c f : String) (o : IE) : IE := fun env st => (o env st).bind fun x s => match fldW s c f x with
  | some w => .ok w s
  | none => .stuck
/-- it is an object of the class c, none of whose own fields is called m -/
def isObj (st : Store) (c m : String) (x : W) : Prop := match x with
  | .ob k ns ws => k = c ∧ m ∉ ns
  | .loc n => match st[n]? with
    | some (.obj k fs) => k = c ∧ m ∉ fs.map (·.1)
    | _ => False
  | _ => False
noncomputable def eMeth (c m : String) (f : Fn) (o : IE) (as : List IE) : IE := fun env st => (o env st).bind fun x s => if isObj s c m x then (eArgs as env s).bind fun xs s2 => f (x :: xs) s2 else .stuck
/-- a property -/
def R.okOnly {α : Type} (r : R α) : Prop := match r with
  | .ok _ _ => True
  | _ => False
noncomputable def eProp (c : String) (f : Fn) (o : IE) : IE := fun env st => (o env st).bind fun x s => match x with
  | .ob k ns ws => if k = c ∧ (f [x] s).okOnly then f [x] s else .stuck
  | .loc n => match s[n]? with
    | some (.obj k fs) => if k = c ∧ (f [x] s).okOnly then f [x] s else .stuck
    | _ => .stuck
  | _ => .stuck
def putW (f : String) (w : W) : List (String × W) → List (String × W)
  | [] => [(f, w)]
  | (g, x) :: r => if g = f then (g, w) :: r else (g, x) :: putW f w r
/-- o.f = v -/
noncomputable def setFld (c f : String) (x v : W) (st : Store) : Option Store := match x with
  | .loc n => match st[n]? with
    | some (.obj k fs) => if k = c ∧ fs.length < 500 then some (st.set n (.obj k (putW f v fs))) else none
    | _ => none
  | _ => none
noncomputable def sSetFld (c f : String) (o a : IE) : IS := fun env st => match a env st with
  | .ok v s => (match o env s with
    | .ok x s1 => (match setFld c f x v s1 with
      | some s2 => .nx env s2
      | none => .stuck)
    | .exc x s => .exc x env s
    | .stuck => .stuck)
  | .exc x s => .exc x env s
  | .stuck => .stuck
/-- C(..): a new object, then its __init__ -/
noncomputable def eMake (c : String) (f : Fn) (as : List IE) : IE := fun env st => (eArgs as env st).bind fun xs s => (f (.loc s.length :: xs) (s ++ [.obj c []])).bind fun w s2 => match w with
  | .non => .ok (.loc s.length) s2
  | _ => .stuck
open PySem L2
section
variable {Γ : Gm} {Z : WX} {X : Cx} {α β : IE} {o e : Expr} {es : List Expr} {p pos apos : Pos} {C : Addr} {c f m : String}
theorem fld_rep {ρ : Pl} {H : Hp} {st : Store} {x w : W} {v : V} (hS : RelS Γ ρ H st) (r : RepV Γ ρ H x v) (e : fldW st c f x = some w) :
    ∃ a dx gs C u, v = .ref a ∧ Γ.oc c = some (.ref C) ∧ H a = some (.ins C dx gs) ∧ gs.lookup (Str.ofString f) = some u ∧ RepV Γ ρ H w u := by
  cases x with
  | ob k ns ws =>
    simp only [fldW] at e
    split at e
    · rename_i hk; subst hk
      obtain ⟨a, C, dx, gs, rfl, hc, hv, hn, rl⟩ := r
      obtain ⟨u, l, ru⟩ := lookup_rep hn rl e
      exact ⟨a, dx, gs, C, u, rfl, hc, hv.1, l, ru⟩
    · cases e
  | loc n =>
    simp only [fldW] at e
    obtain ⟨a, rfl, ha⟩ := r
    cases e1 : st[n]? with
    | none => rw [e1] at e; cases e
    | some cl =>
      rw [e1] at e
      cases cl with
      | obj k fs =>
        simp only at e
        split at e
        · rename_i hk; subst hk
          obtain ⟨C, dx, gs, hc, hi, hn, rl⟩ := hS.at_ n _ a e1 ha
          have e' : ((fs.map (·.1)).zip (fs.map (·.2))).lookup f = some w := by
            have : (fs.map (·.1)).zip (fs.map (·.2)) = fs := by
              clear e1 e hS hn rl
              induction fs with
              | nil => rfl
              | cons q fs ih => simp only [List.map_cons, List.zip_cons_cons, ih]
            rw [this]; exact e
          obtain ⟨u, l, ru⟩ := lookup_rep (ns := fs.map (·.1)) (by rw [hn, List.map_map]; rfl) rl e'
          exact ⟨a, dx, gs, C, u, rfl, hc, hi, l, ru⟩
        · cases e
      | lst _ => cases e
      | dict _ => cases e
      | dictP _ => cases e
      | gone => cases e
  | _ => cases e
theorem i_attr (hcl : Γ.oc c = some (.ref C)) (hK : Cls X.K C) (hn : NoAttr X.K C (Str.ofString f)) (ho : PE X o (rd Γ Z α)) (hb : attributeBase o (Str.ofString f) X.env (eval o X.env) = eval o X.env := by rfl) : PE X (.Attribute o (Str.ofString f) pos) (rd Γ Z (eAttr c f α)) := by
  refine PE.imp (pe_fld ho hb) ?_
  rintro σ H Q ⟨ρ, env, st, hS, hE, h⟩
  unfold eAttr at h
  refine ⟨ρ, env, st, hS, hE, (Post.bind h).mono ?_⟩
  rintro v H1 ⟨w, s1, ρ1, e1, hS1, x1, r1, h1⟩
  cases e2 : fldW s1 c f w with
  | none => rw [e2] at h1; exact h1.elim
  | some u =>
    rw [e2] at h1
    obtain ⟨a, dx, gs, C', y, rfl, hc, hi, l, ry⟩ := fld_rep hS1 r1 e2
    rw [hcl] at hc; cases hc
    exact ⟨a, C, dx, gs, y, rfl, hi, hK, hn, l, h1 y ρ1 H1 hS1 .refl ry⟩
theorem lookup_none {f : String} : ∀ {ns : List String} {gs : List (Str × V)}, gs.map (·.1) = ns.map Str.ofString → f ∉ ns → gs.lookup (Str.ofString f) = none
  | [], [], _, _ => rfl
  | [], g :: gs, h, _ => by simp at h
  | n :: ns, [], h, _ => by simp at h
  | n :: ns, (g, y) :: gs, h, k => by
    simp only [List.map_cons, List.cons.injEq] at h
    obtain ⟨h1, h2⟩ := h
    simp only [List.mem_cons, not_or] at k
    subst h1
    have : (Str.ofString f == Str.ofString n) = false := by
      simp only [beq_eq_false_iff_ne, ne_eq]
      intro q; exact k.1 (ofString_inj q)
    simp only [List.lookup_cons, this]
    exact lookup_none h2 k.2
theorem obj_rep {ρ : Pl} {H : Hp} {st : Store} {x : W} {v : V} (hS : RelS Γ ρ H st) (r : RepV Γ ρ H x v) (e : isObj st c m x) : ∃ a dx gs C, v = .ref a ∧ Γ.oc c = some (.ref C) ∧ H a = some (.ins C dx gs) ∧ gs.lookup (Str.ofString m) = none := by
  cases x with
  | ob k ns ws =>
    obtain ⟨rfl, hm⟩ := e
    obtain ⟨a, C, dx, gs, rfl, hc, hv, hn, rl⟩ := r
    exact ⟨a, dx, gs, C, rfl, hc, hv.1, lookup_none hn hm⟩
  | loc n =>
    simp only [isObj] at e
    obtain ⟨a, rfl, ha⟩ := r
    cases e1 : st[n]? with
    | none => rw [e1] at e; exact e.elim
    | some cl =>
      rw [e1] at e
      cases cl with
      | obj k fs =>
        obtain ⟨rfl, hm⟩ := e
        obtain ⟨C, dx, gs, hc, hi, hn, rl⟩ := hS.at_ n _ a e1 ha
        exact ⟨a, dx, gs, C, rfl, hc, hi, lookup_none (ns := fs.map (·.1)) (by rw [hn, List.map_map]; rfl) hm⟩
      | lst _ => exact e.elim
      | dict _ => exact e.elim
      | dictP _ => exact e.elim
      | gone => exact e.elim
  | _ => exact e.elim
/-! methods -/
/-- o.m(..): what is raised is wished for at the caller's slots -/
def tMt (C : Addr) (m : Str) (sp : Sp) (E : St → XK) (ta : TE) (t : TA) : TE := fun σ H Q => ta σ H fun x H1 => ∃ a dx fs, x = .ref a ∧ H1 a = some (.ins C dx fs) ∧ fs.lookup m = none ∧ t σ H1 fun vs H2 => sp (x :: vs) H2 Q (E σ)
def tMk' (C : Addr) (sp : Sp) (E : St → XK) (t : TA) : TE := fun σ H Q => t σ H fun vs H1 => ∀ x dx, H1 x = none → H1 dx = none → dx ≠ x → sp (.ref x :: vs) (upd (upd H1 dx (.own x)) x (.ins C dx [])) (fun v H2 => v = .non ∧ Q (.ref x) H2) (E σ)
variable {k : Nat} {fa : Addr} {fd : FuncData} {ps : List Str} {sp : Sp} {E : St → XK} {ta : TE} {t : TA} {m' : Str}
theorem pe_mt' {pl : Sem Bool} (hO : PE X o ta) (hC : Cls X.K C) (hM : Meth X.K C m' fa) (hF : FnOk X.prog X.w X.K X.mg X.base (L2.CX X.prog X.w) k fa fd ps sp) (hR : Room k X.A) (hB : Binds X.K fd ps []) (hP : ∀ σ, PassesAt (L2.CX X.prog X.w) X σ (E σ)) (hA : PA X (e :: es) t)
    (h1 : starEach (e :: es) X.env = (false, eval e X.env) :: starEach es X.env := by rfl) (h2 : (backTo pos (starEach es X.env)).any (·.1) = false := by rfl)
    (h3 : eval (.Call (.Attribute o m' apos) (e :: es) [] pos) X.env = (eval o X.env >>= fun ov => standAt apos.atName >>= fun _ => holding [ov] (getMethod ov m' pl) >>= fun q => callWith pos q.1 q.2 (backTo pos (starEach (e :: es) X.env)) (backToKw pos (keywordEach [] X.env))) := by rfl) :
    PE X (.Call (.Attribute o m' apos) (e :: es) [] pos) (tMt C m' sp E ta t) := ⟨fun pins s σ H Q I q0 =>
  PySem.W.methodCall_KW (pl := pl) (thn (hO.run pins s σ H _ I q0) fun u s1 hq => by
    obtain ⟨x, H1, I1, rx, a, dx, fs, ex, ea, l, q1⟩ := hq
    subst ex
    cases rx
    refine getmeth_ok I1 ea hC hM l (PySem.W.callWith_K (first := [.ref a]) (h₀ := X.base) I.ok.mod.kin hM.kp (thn (hA.run pos pins s1 σ H1 _ I1 q1) fun us s2 hq2 => ?_) h1 h2)
    obtain ⟨vs, H2, I2, rv, q2⟩ := hq2
    exact ⟨I2.kIn, run_fnS (us := .ref a :: us) (vs := .ref a :: vs) hF hR hB (hP σ) I2 (.cons rfl rv) q2⟩) h3⟩
theorem pe_mt0' {pl : Sem Bool} (hO : PE X o ta) (hC : Cls X.K C) (hM : Meth X.K C m' fa) (hF : FnOk X.prog X.w X.K X.mg X.base (L2.CX X.prog X.w) k fa fd ps sp) (hR : Room k X.A) (hB : Binds X.K fd ps []) (hP : ∀ σ, PassesAt (L2.CX X.prog X.w) X σ (E σ))
    (h3 : eval (.Call (.Attribute o m' apos) [] [] pos) X.env = (eval o X.env >>= fun ov => standAt apos.atName >>= fun _ => holding [ov] (getMethod ov m' pl) >>= fun q => callWith pos q.1 q.2 (backTo pos (starEach [] X.env)) (backToKw pos (keywordEach [] X.env))) := by rfl) :
    PE X (.Call (.Attribute o m' apos) [] [] pos) (tMt C m' sp E ta tNil) := ⟨fun pins s σ H Q I q0 =>
  PySem.W.methodCall_KW (pl := pl) (thn (hO.run pins s σ H _ I q0) fun u s1 hq => by
    obtain ⟨x, H1, I1, rx, a, dx, fs, ex, ea, l, q1⟩ := hq
    subst ex
    cases rx
    exact getmeth_ok I1 ea hC hM l (PySem.W.callWith_K0 (first := [.ref a]) I1.kIn hM.kp (run_fnS (us := [.ref a]) (vs := [.ref a]) hF hR hB (hP σ) I1 (.cons rfl .nil) q1))) h3⟩
theorem meth_rd {αs : List IE} {fn : Fn} (hcl : Γ.oc c = some (.ref C)) (hl : αs.length + 1 = ps.length) {σ : St} {H : Hp} {Q : VK} (h : rd Γ Z (eMeth c m fn α αs) σ H Q) : tMt C (Str.ofString m) (spI Γ ps.length fn) (fun σ => WE Z σ) (rd Γ Z α) (rdA Γ Z (eArgs αs)) σ H Q := by
  obtain ⟨ρ, env, st, hS, hE, h⟩ := h
  unfold eMeth at h
  refine ⟨ρ, env, st, hS, hE, (Post.bind h).mono ?_⟩
  rintro v H1 ⟨w, s1, ρ1, e1, hS1, x1, r1, h1⟩
  by_cases ho : isObj s1 c m w
  · rw [if_pos ho] at h1
    obtain ⟨a, dx, gs, C', rfl, hc, hi, l⟩ := obj_rep hS1 r1 ho
    rw [hcl] at hc; cases hc
    refine ⟨a, dx, gs, rfl, hi, l, ρ1, env, s1, hS1, hE.ext x1, (Post.bind h1).mono ?_⟩
    rintro vs H2 ⟨ws, s2, ρ2, e2, hS2, x2, r2, h2⟩
    have len : ∀ (αs : List IE) env st ws s, eArgs αs env st = .ok ws s → ws.length = αs.length := by
      intro αs
      induction αs with
      | nil => intro env st ws s e; cases e; rfl
      | cons a r ih =>
        intro env st ws s e
        unfold eArgs at e
        cases g1 : a env st with
        | ok w s1 =>
          rw [g1] at e
          cases g2 : eArgs r env s1 with
          | ok xs s2 => simp [g2] at e; obtain ⟨rfl, _⟩ := e; simp [ih _ _ _ _ g2]
          | exc x s2 => simp [g2] at e
          | stuck => simp [g2] at e
        | exc x s1 => rw [g1] at e; cases e
        | stuck => rw [g1] at e; cases e
    refine ⟨by rw [List.length_cons, r2.len, len _ _ _ _ _ e2]; exact hl, ρ2, s2, w :: ws, hS2, .cons (r1.ext x2) r2, ?_⟩
    cases e3 : fn (w :: ws) s2 with
    | ok u s3 => rw [e3] at h2; exact h2
    | exc y s3 => rw [e3] at h2; exact h2
    | stuck => rw [e3] at h2; exact h2
  · rw [if_neg ho] at h1; exact h1.elim
theorem i_meth {αs : List IE} {fn : Fn} {pl : Sem Bool} (hcl : Γ.oc c = some (.ref C)) (hC : Cls X.K C) (hM : Meth X.K C (Str.ofString m) fa) (hF : FnOk X.prog X.w X.K X.mg X.base (L2.CX X.prog X.w) k fa fd ps (spI Γ ps.length fn)) (hR : Room k X.A) (hB : Binds X.K fd ps []) (tk : Takes X Z) (hO : PE X o (rd Γ Z α)) (hA : PA X (e :: es) (rdA Γ Z (eArgs αs))) (hl : αs.length + 1 = ps.length := by rfl)
    (h1 : starEach (e :: es) X.env = (false, eval e X.env) :: starEach es X.env := by rfl) (h2 : (backTo pos (starEach es X.env)).any (·.1) = false := by rfl)
    (h3 : eval (.Call (.Attribute o (Str.ofString m) apos) (e :: es) [] pos) X.env = (eval o X.env >>= fun ov => standAt apos.atName >>= fun _ => holding [ov] (getMethod ov (Str.ofString m) pl) >>= fun q => callWith pos q.1 q.2 (backTo pos (starEach (e :: es) X.env)) (backToKw pos (keywordEach [] X.env))) := by rfl) :
    PE X (.Call (.Attribute o (Str.ofString m) apos) (e :: es) [] pos) (rd Γ Z (eMeth c m fn α αs)) :=
  PE.imp (pe_mt' (E := fun σ => WE Z σ) hO hC hM hF hR hB (fun σ => passAt tk σ) hA h1 h2 h3) fun _ _ _ h => meth_rd hcl hl h
theorem i_meth0 {fn : Fn} {pl : Sem Bool} (hcl : Γ.oc c = some (.ref C)) (hC : Cls X.K C) (hM : Meth X.K C (Str.ofString m) fa) (hF : FnOk X.prog X.w X.K X.mg X.base (L2.CX X.prog X.w) k fa fd ps (spI Γ ps.length fn)) (hR : Room k X.A) (hB : Binds X.K fd ps []) (tk : Takes X Z) (hO : PE X o (rd Γ Z α)) (hl : 1 = ps.length := by rfl)
    (h3 : eval (.Call (.Attribute o (Str.ofString m) apos) [] [] pos) X.env = (eval o X.env >>= fun ov => standAt apos.atName >>= fun _ => holding [ov] (getMethod ov (Str.ofString m) pl) >>= fun q => callWith pos q.1 q.2 (backTo pos (starEach [] X.env)) (backToKw pos (keywordEach [] X.env))) := by rfl) :
    PE X (.Call (.Attribute o (Str.ofString m) apos) [] [] pos) (rd Γ Z (eMeth c m fn α [])) :=
  PE.imp (pe_mt0' (E := fun σ => WE Z σ) hO hC hM hF hR hB (fun σ => passAt tk σ) h3) fun σ H Q h => by
    have h := meth_rd (αs := []) (ps := ps) (C := C) hcl hl h
    obtain ⟨ρ, env, st, hS, hE, h⟩ := h
    refine ⟨ρ, env, st, hS, hE, h.mono ?_⟩
    rintro v H1 ⟨a, dx, fs, e1, e2, e3, ρ1, env1, s1, hS1, hE1, h1⟩
    exact ⟨a, dx, fs, e1, e2, e3, h1 [] ρ1 H1 hS1 .refl rfl⟩
/-! making -/
theorem pe_mk' (M1 : Mk X.K C fa) (hF : FnOk X.prog X.w X.K X.mg X.base (L2.CX X.prog X.w) k fa fd ps sp) (hR : Room (k + 1) X.A) {x : Str} (hg : Gl X x) (hm : X.mg x = some (.ref C)) (hB : Binds X.K fd ps []) (hP : ∀ σ, PassesAt (L2.CX X.prog X.w) X σ (E σ)) (hA : PA X (e :: es) t)
    (h0 : (x == ("__debug__" : Str)) = false := by decide) (h1 : starEach (e :: es) X.env = (false, eval e X.env) :: starEach es X.env := by rfl) (h2 : (backTo pos (starEach es X.env)).any (·.1) = false := by rfl) :
    PE X (.Call (.Name x p) (e :: es) [] pos) (tMk' C sp E t) := ⟨fun pins s σ H Q I q0 =>
  wpAny_Call_Name_kw (ld_glob I hg hm (PySem.W.callWith_K (h₀ := X.base) I.ok.mod.kin M1.kp (thn (hA.run pos pins s σ H _ I q0) fun us s1 hq => by
    obtain ⟨vs, H1, I1, rv, q1⟩ := hq
    refine ⟨I1.kIn, ?_⟩
    have q2 := q1 (s1.heap.objs.size + 1) s1.heap.objs.size (I1.hok.fresh (Nat.le_succ _)) (I1.hok.fresh (Nat.le_refl _)) (Nat.ne_of_lt (Nat.lt_succ_self _))
    have I2 := Inv.made (C := C) I1
    have rr : Vals (V.ref (s1.heap.objs.size + 1) :: vs) (Value.ref (s1.heap.objs.size + 1) :: us) := .cons rfl rv
    have hl : (Value.ref (s1.heap.objs.size + 1) :: us).length = ps.length := by rw [← rr.length]; exact hF.len _ _ _ _ q2
    have bb := hB _ (Value.ref (s1.heap.objs.size + 1) :: us) I2.kIn (by rw [List.append_nil]; exact hl)
    rw [List.append_nil] at bb
    refine wpAny_call (make_map (f := fa) I1.kIn M1.makes M1.init (beq_iff_eq.mp M1.fn) (codeAny_mono (hF.run _ X.stack _ _ ⟨Value.ref (s1.heap.objs.size + 1) :: us, []⟩ _ _ _ (E σ) (hR.make C us []) (I2.env0.make C us []) bb rr q2) fun r s' hr => ?_))
    cases r with
    | error er => exact hP σ pins _ _ er s' I2 hr
    | ok fl =>
      cases fl with
      | ret u =>
        obtain ⟨v, H', I3, rv3, ev, q3⟩ := I2.after hr
        subst ev
        exact ⟨rv3, ⟨V.ref (s1.heap.objs.size + 1), H', I3, rfl, q3⟩⟩
      | next => exact False.elim hr
      | brk => exact False.elim hr
      | cont => exact False.elim hr) h1 h2) h0)⟩
end
end M

-- Sound20
set_option Elab.async false
set_option autoImplicit false
set_option linter.all false
set_option maxRecDepth 100000
/-! objects: making, storing, properties -/
namespace M
open PySem L2
section
variable {Γ : Gm} {Z : WX} {X : Cx} {α β : IE} {o e : Expr} {es : List Expr} {p pos apos : Pos} {C : Addr} {c f m : String} {k : Nat} {fa : Addr} {fd : FuncData} {ps : List Str}
theorem RelS.newObj {ρ : Pl} {H : Hp} {st : Store} {x dx : Addr} (hS : RelS Γ ρ H st) (hx : H x = none) (hd : H dx = none) (ne : dx ≠ x) (hcl : Γ.oc c = some (.ref C)) :
    RelS Γ (ρ.add x) (upd (upd H dx (.own x)) x (.ins C dx [])) (st ++ [.obj c []]) ∧ Ext Γ ρ H (ρ.add x) (upd (upd H dx (.own x)) x (.ins C dx [])) := by
  have h1 : RelS Γ ρ (upd H dx (.own x)) st := hS.free hd
  have hx1 : upd H dx (.own x) x = none := by rw [upd_ne (Ne.symm ne)]; exact hx
  have h2 : Ext Γ ρ (upd H dx (.own x)) (ρ.add x) (upd (upd H dx (.own x)) x (.ins C dx [])) := Ext.grow h1 hx1
  refine ⟨h1.grow hx1 ⟨C, dx, [], hcl, upd_same, rfl, rfl⟩, (Ext.free hd).trans h2⟩
theorem i_make {αs : List IE} {fn : Fn} {x : Str} (hcl : Γ.oc c = some (.ref C)) (M1 : Mk X.K C fa) (hF : FnOk X.prog X.w X.K X.mg X.base (L2.CX X.prog X.w) k fa fd ps (spI Γ ps.length fn)) (hR : Room (k + 1) X.A) (hm : X.mg x = some (.ref C)) (hB : Binds X.K fd ps []) (tk : Takes X Z) (hA : PA X (e :: es) (rdA Γ Z (eArgs αs))) (hl : αs.length + 1 = ps.length := by rfl) (hg : Gl X x := by rfl)
    (h0 : (x == ("__debug__" : Str)) = false := by decide) (h1 : starEach (e :: es) X.env = (false, eval e X.env) :: starEach es X.env := by rfl) (h2 : (backTo pos (starEach es X.env)).any (·.1) = false := by rfl) :
    PE X (.Call (.Name x p) (e :: es) [] pos) (rd Γ Z (eMake c fn αs)) := by
  refine PE.imp (pe_mk' (E := fun σ => WE Z σ) M1 hF hR hg hm hB (fun σ => passAt tk σ) hA h0 h1 h2) ?_
  rintro σ H Q ⟨ρ, env, st, hS, hE, h⟩
  unfold eMake at h
  refine ⟨ρ, env, st, hS, hE, (Post.bind h).mono ?_⟩
  rintro vs H1 ⟨ws, s1, ρ1, e1, hS1, x1, r1, g⟩
  intro x dx hx hd ne
  obtain ⟨n1, n2⟩ := hS1.newObj hx hd ne hcl
  have len : ∀ (αs : List IE) env st ws s, eArgs αs env st = .ok ws s → ws.length = αs.length := by
    intro αs
    induction αs with
    | nil => intro env st ws s e; cases e; rfl
    | cons a r ih =>
      intro env st ws s e
      unfold eArgs at e
      cases g1 : a env st with
      | ok w s1 =>
        rw [g1] at e
        cases g2 : eArgs r env s1 with
        | ok xs s2 => simp [g2] at e; obtain ⟨rfl, _⟩ := e; simp [ih _ _ _ _ g2]
        | exc x s2 => simp [g2] at e
        | stuck => simp [g2] at e
      | exc x s1 => rw [g1] at e; cases e
      | stuck => rw [g1] at e; cases e
  have hlast : RepV Γ (ρ1.add x) (upd (upd H1 dx (.own x)) x (.ins C dx [])) (.loc s1.length) (.ref x) := by
    refine ⟨x, rfl, ?_⟩
    show (ρ1.at_ ++ [x])[s1.length]? = some x
    rw [← hS1.len, List.getElem?_append_right (Nat.le_refl _)]; simp
  refine ⟨by rw [List.length_cons, r1.len, len _ _ _ _ _ e1]; exact hl, ρ1.add x, s1 ++ [.obj c []], .loc s1.length :: ws, n1, .cons hlast (r1.ext n2), ?_⟩
  cases e3 : fn (.loc s1.length :: ws) (s1 ++ [.obj c []]) with
  | ok u s3 =>
    rw [e3] at g
    intro v ρ3 H3 hS3 x3 r3
    cases u with
    | non =>
      cases r3
      exact ⟨rfl, g (.ref x) ρ3 H3 hS3 (n2.trans x3) (hlast.ext x3)⟩
    | _ => exact g.elim
  | exc y s3 =>
    rw [e3] at g
    exact fun ρ3 H3 cls d hS3 x3 r3 => g ρ3 H3 cls d hS3 (n2.trans x3) r3
  | stuck => rw [e3] at g; exact g
/-! o.f = e -/
theorem putF_rep {ρ : Pl} {H : Hp} {f : String} {w : W} {y : V} (ry : RepV Γ ρ H w y) : ∀ {fs : List (String × W)} {gs : List (Str × V)}, RepF Γ ρ H fs gs → RepF Γ ρ H (putW f w fs) (putF (Str.ofString f) y gs)
  | [], [], _ => ⟨rfl, .one ry⟩
  | [], g :: gs, h => by have := h.1; simp at this
  | p :: fs, [], h => by have := h.1; simp at this
  | (n, u) :: fs, (g, z) :: gs, h => by
    obtain ⟨h1, h2⟩ := h
    simp only [List.map_cons, List.cons.injEq] at h1 h2
    obtain ⟨h1, h3⟩ := h1
    obtain ⟨v, t, e, a, b⟩ := h2
    simp only [List.cons.injEq] at e
    obtain ⟨rfl, rfl⟩ := e
    subst h1
    unfold putW putF
    by_cases hf : n = f
    · subst hf
      rw [if_pos rfl, if_pos rfl]
      exact ⟨by simp [h3], .cons ry b⟩
    · have hf2 : ¬ Str.ofString n = Str.ofString f := fun q => hf (ofString_inj q)
      rw [if_neg hf, if_neg hf2]
      obtain ⟨i1, i2⟩ := putF_rep ry (fs := fs) (gs := gs) ⟨h3, b⟩
      exact ⟨by simp [i1], .cons a i2⟩
theorem s_setFld (hcl : Γ.oc c = some (.ref C)) (hK : Cls X.K C) (hn : NoAttr X.K C (Str.ofString f)) (ho : PE X o (rd Γ Z α)) (hv : PE X e (rd Γ Z β)) (hs : swapsWith e (some (.Attribute o (Str.ofString f) apos)) pos.line X.env = pure false := by rfl) :
    PS X (.Assign [.Attribute o (Str.ofString f) apos] e pos) (rdS Γ Z (sSetFld c f α β)) := by
  refine PS.imp (ps_fld ho hv hs) ?_
  rintro D σ H ⟨ρ, env, st, hS, hE, h⟩
  refine ⟨ρ, env, st, hS, hE, ?_⟩
  unfold sSetFld at h
  cases e1 : β env st with
  | stuck => rw [e1] at h; exact h
  | exc z s => rw [e1] at h; exact fun ρ' H' c d a b r => h σ ρ' H' c d a b (hE.ext b) r
  | ok w s =>
    rw [e1] at h
    intro y ρ1 H1 hS1 x1 ry
    refine ⟨ρ1, env, s, hS1, hE.ext x1, ?_⟩
    simp only at h
    cases e2 : α env s with
    | stuck => rw [e2] at h; exact h
    | exc z s2 => rw [e2] at h; exact fun ρ' H' c d a b r => h σ ρ' H' c d a (x1.trans b) ((hE.ext x1).ext b) r
    | ok u s2 =>
      rw [e2] at h
      intro v ρ2 H2 hS2 x2 rv
      simp only at h
      cases u with
      | loc n =>
        obtain ⟨a, rfl, ha⟩ := rv
        simp only [setFld] at h
        cases e3 : s2[n]? with
        | none => rw [e3] at h; exact h.elim
        | some cl =>
          rw [e3] at h
          cases cl with
          | obj k fs =>
            simp only at h
            by_cases hh : k = c ∧ fs.length < 500
            · rw [if_pos hh] at h
              obtain ⟨rfl, hl⟩ := hh
              obtain ⟨C', dx, gs, hc, hi, hf⟩ := hS2.at_ n _ a e3 ha
              rw [hcl] at hc; cases hc
              have hgl : gs.length = fs.length := by
                have := congrArg List.length hf.1
                simpa using this
              have hw : Ext Γ ρ2 H2 ρ2 (upd H2 a (.ins C dx (putF (Str.ofString f) y gs))) := Ext.write hS2 ha e3 hi trivial
              refine ⟨a, C, dx, gs, rfl, hi, hK, hn, by omega, ?_⟩
              have hS3 := hS2.write (c := .obj k (putW f w fs)) ha e3 hi trivial ⟨C, dx, _, hcl, upd_same, (putF_rep ((ry.ext x2)) hf).1, (putF_rep (ry.ext x2) hf).2.ext hw⟩
              exact h σ ρ2 _ hS3 ((x1.trans x2).trans hw) (((hE.ext x1).ext x2).ext hw)
            · rw [if_neg hh] at h; exact h.elim
          | lst _ => exact h.elim
          | dict _ => exact h.elim
          | dictP _ => exact h.elim
          | gone => exact h.elim
      | _ => exact h.elim
/-! properties -/
theorem i_prop {fn : Fn} {pa : Addr} (hcl : Γ.oc c = some (.ref C)) (hC : Cls X.K C) (hP : PropOf X.K C (Str.ofString f) pa fa) (hF : FnOk X.prog X.w X.K X.mg X.base (L2.CX X.prog X.w) k fa fd ps (spI Γ 1 fn)) (hR : Room (k + 1) X.A) (hB : Binds X.K fd ps []) (ho : PE X o (rd Γ Z α)) (hb : attributeBase o (Str.ofString f) X.env (eval o X.env) = eval o X.env := by rfl) :
    PE X (.Attribute o (Str.ofString f) pos) (rd Γ Z (eProp c fn α)) := by
  refine PE.imp (pe_prop (E := fun _ _ _ => False) ho hC hP hF hR hB .nil (fun _ _ _ _ _ _ _ h => by
    obtain ⟨_, _, _, _, _, _, _, _, _, _, _, _, z⟩ := h
    exact z.elim) hb) ?_
  rintro σ H Q ⟨ρ, env, st, hS, hE, h⟩
  unfold eProp at h
  refine ⟨ρ, env, st, hS, hE, (Post.bind h).mono ?_⟩
  rintro v H1 ⟨w, s1, ρ1, e1, hS1, x1, r1, h1⟩
  have fin : ∀ a, v = .ref a → (fn [w] s1).okOnly → Post Γ (RepV Γ) Z σ ρ1 H1 Q (fn [w] s1) → spI Γ 1 fn [.ref a] H1 Q (fun _ _ _ => False) := by
    rintro a rfl hok hp
    refine ⟨rfl, ρ1, s1, [w], hS1, .one r1, ?_⟩
    cases e2 : fn [w] s1 with
    | ok u s2 => rw [e2] at hp; exact hp
    | exc y s2 => rw [e2] at hok; exact hok.elim
    | stuck => rw [e2] at hok; exact hok.elim
  cases w with
  | ob k ns ws =>
    simp only at h1
    split at h1
    · rename_i hk; obtain ⟨rfl, hok⟩ := hk
      obtain ⟨a, C', dx, gs, rfl, hc, hv, hn, rl⟩ := r1
      rw [hcl] at hc; cases hc
      exact ⟨a, dx, gs, rfl, hv.1, fin a rfl hok h1⟩
    · exact h1.elim
  | loc n =>
    simp only at h1
    obtain ⟨a, rfl, ha⟩ := r1
    cases e2 : s1[n]? with
    | none => rw [e2] at h1; exact h1.elim
    | some cl =>
      rw [e2] at h1
      cases cl with
      | obj k fs =>
        simp only at h1
        split at h1
        · rename_i hk; obtain ⟨rfl, hok⟩ := hk
          obtain ⟨C', dx, gs, hc, hi, hf⟩ := hS1.at_ n _ a e2 ha
          rw [hcl] at hc; cases hc
          exact ⟨a, dx, gs, rfl, hi, fin a rfl hok h1⟩
        · exact h1.elim
      | lst _ => exact h1.elim
      | dict _ => exact h1.elim
      | dictP _ => exact h1.elim
      | gone => exact h1.elim
  | _ => exact h1.elim
end
end M

-- Sound21
set_option Elab.async false
set_option autoImplicit false
set_option linter.all false
set_option maxRecDepth 100000
/-! data by its order: <, <=, >, >= -/
namespace M
open PySem L2
/-- two things of one shape -/
def CmpOk (x y : W) : Prop := x.pure = true ∧ x.okD 60 = true ∧ y.pure = true ∧ y.okD 60 = true ∧ PySem.W.alike (toP x) (toP y) = true ∧ toP x ≠ .none
open Classical in
noncomputable def opCD (f : W → W → Bool) : W → W → Store → R W := fun x y s => if CmpOk x y then .ok (.bl (f x y)) s else .stuck
noncomputable def opLtD := opCD fun x y => ltW x y
noncomputable def opGtD := opCD fun x y => ltW y x
noncomputable def opLeD := opCD fun x y => !ltW y x
noncomputable def opGeD := opCD fun x y => !ltW x y
section
variable {Γ : Gm} {X : Cx}
def rCD (Γ : Gm) (f : W → W → Bool) : R2 := fun x y H Q => ∃ (ρ : Pl) (a b : W), RepV Γ ρ H a x ∧ RepV Γ ρ H b y ∧ CmpOk a b ∧ Q (.bl (f a b)) H
theorem sem_CD (f : W → W → Bool) : SemOp Γ (rCD Γ f) (opCD f) := by
  intro Z σ ρ H st x y xv yv Q hS rx ry h
  unfold opCD at h
  split at h
  · rename_i c
    exact ⟨ρ, x, y, rx, ry, c, h _ ρ H hS .refl rfl⟩
  · exact h.elim
theorem cd_depth {x y : W} {A : Around} (hu : A.units + 64 < cLine) (c : CmpOk x y) : A.units + min (toP x).depth (toP y).depth < cLine := by
  have h := (shp c.2.1).2
  have : min (toP x).depth (toP y).depth ≤ (toP x).depth := Nat.min_le_left _ _
  omega
theorem op_ltD (hK : X.K = Γ.K) (hu : X.A.units + 64 < cLine) : OpR X (compareOp .Lt) (rCD Γ fun x y => ltW x y) := by
  intro pins s σ H x y v u Q I rx ry h
  obtain ⟨ρ, a, b, ra, rb, c, q⟩ := h
  obtain ⟨as, r1⟩ := Dp.reads I _ x v (by rw [hK]; exact dp_of ra c.2.1) rx
  obtain ⟨bs, r2⟩ := Dp.reads I _ y u (by rw [hK]; exact dp_of rb c.2.2.2.1) ry
  exact PySem.W.lt_data r1 r2 c.2.2.2.2.1 c.2.2.2.2.2 (cd_depth hu c) ⟨.bl _, H, I, rfl, q⟩
theorem op_gtD (hK : X.K = Γ.K) (hu : X.A.units + 64 < cLine) : OpR X (compareOp .Gt) (rCD Γ fun x y => ltW y x) := by
  intro pins s σ H x y v u Q I rx ry h
  obtain ⟨ρ, a, b, ra, rb, c, q⟩ := h
  obtain ⟨as, r1⟩ := Dp.reads I _ x v (by rw [hK]; exact dp_of ra c.2.1) rx
  obtain ⟨bs, r2⟩ := Dp.reads I _ y u (by rw [hK]; exact dp_of rb c.2.2.2.1) ry
  exact PySem.W.gt_data r1 r2 c.2.2.2.2.1 c.2.2.2.2.2 (cd_depth hu c) ⟨.bl _, H, I, rfl, q⟩
theorem op_leD (hK : X.K = Γ.K) (hu : X.A.units + 64 < cLine) : OpR X (compareOp .LtE) (rCD Γ fun x y => !ltW y x) := by
  intro pins s σ H x y v u Q I rx ry h
  obtain ⟨ρ, a, b, ra, rb, c, q⟩ := h
  obtain ⟨as, r1⟩ := Dp.reads I _ x v (by rw [hK]; exact dp_of ra c.2.1) rx
  obtain ⟨bs, r2⟩ := Dp.reads I _ y u (by rw [hK]; exact dp_of rb c.2.2.2.1) ry
  exact PySem.W.le_data r1 r2 c.2.2.2.2.1 c.2.2.2.2.2 (cd_depth hu c) ⟨.bl _, H, I, rfl, q⟩
theorem op_geD (hK : X.K = Γ.K) (hu : X.A.units + 64 < cLine) : OpR X (compareOp .GtE) (rCD Γ fun x y => !ltW x y) := by
  intro pins s σ H x y v u Q I rx ry h
  obtain ⟨ρ, a, b, ra, rb, c, q⟩ := h
  obtain ⟨as, r1⟩ := Dp.reads I _ x v (by rw [hK]; exact dp_of ra c.2.1) rx
  obtain ⟨bs, r2⟩ := Dp.reads I _ y u (by rw [hK]; exact dp_of rb c.2.2.2.1) ry
  exact PySem.W.ge_data r1 r2 c.2.2.2.2.1 c.2.2.2.2.2 (cd_depth hu c) ⟨.bl _, H, I, rfl, q⟩
/-! range(i, j, -1) -/
end
def downTo (lo : Int) (n : Nat) : List W := (List.range n).map fun (k : Nat) => W.int (lo - (k : Int))
noncomputable def itDown (xs : List W) (st : Store) : R It := match xs with
  | [.int i, .int j, .int k] => open Classical in if k = -1 ∧ inR i ∧ inR j then .ok ⟨downTo i (i - j).toNat, fun _ => True⟩ st else .stuck
  | _ => .stuck
noncomputable def iRangeD (as : List IE) : II := fun env st => (eArgs as env st).bind itDown
section
variable {Γ : Gm} {X : Cx} {Z : WX} {α β γ : IE}
theorem walks_down (lo : Int) (n : Nat) (ρ : Pl) (H : Hp) : Walks Γ ⟨downTo lo n, fun _ => True⟩ (Itc lo (-1) n) ρ H :=
  ⟨fun i ρ2 H2 s2 h2 x2 g w hw => by
    have hi : i < n ∧ w = .int (lo - (i : Int)) := by
      unfold downTo at hw
      rw [List.getElem?_map] at hw
      cases e : (List.range n)[i]? with
      | none => rw [e] at hw; cases hw
      | some k =>
        rw [e] at hw
        obtain ⟨hl, hk⟩ := List.getElem?_eq_some_iff.mp e
        simp at hl hk
        subst hk
        cases hw
        exact ⟨hl, rfl⟩
    obtain ⟨hi, rfl⟩ := hi
    refine ⟨hi, fun x H3 ⟨e1, e2⟩ => ?_⟩
    subst e1; subst e2
    have : lo + (i : Int) * -1 = lo - (i : Int) := by omega
    rw [this]
    exact ⟨h2, .refl, rfl⟩, fun ρ2 H2 s2 h2 x2 g => by simp [Itc, downTo]⟩
theorem w_range3 {a b c : Expr} {tg : Expr} {p pos : Pos} (hm : X.mg "range" = none) (ha : PA X [a, b, c] (rdA Γ Z (eArgs [α, β, γ]))) (hg : Gl X "range" := by rfl) (hs : starEach [a, b, c] X.env = (false, eval a X.env) :: starEach [b, c] X.env := by rfl) (hpl : (backTo pos (starEach [b, c] X.env)).any (·.1) = false := by rfl) : PI X tg (.Call (.Name "range" p) [a, b, c] [] pos) (rdI Γ Z (iRangeD [α, β, γ])) := by
  have h := pi_range3 (tg := tg) (p := p) (pos := pos) hg hm ha hs hpl
  refine ⟨fun pins s σ H R I q => h.run pins s σ H R I ?_⟩
  obtain ⟨ρ, env, st, hS, hE, q⟩ := q
  refine ⟨ρ, env, st, hS, hE, (Post.bindI q).mono ?_⟩
  rintro v H1 ⟨ws, s1, ρ1, e1, hS1, x1, r1, h1⟩
  unfold itDown at h1
  split at h1
  · rename_i i j k
    obtain ⟨v, _, rfl, rfl, v', _, rfl, rfl, v'', _, rfl, rfl, rfl⟩ := r1
    split at h1
    · rename_i hc
      obtain ⟨rfl, hc⟩ := hc
      exact ⟨i, j, -1, (i - j).toNat, rfl, RgC.neg hc.1.1 hc.1.2 hc.2.1 hc.2.2, h1 _ ρ1 H1 hS1 .refl (walks_down i _ _ _)⟩
    · exact h1.elim
  · exact h1.elim
/-! xs * k -/
end
noncomputable def repW (k : Int) (ws : List W) : List W := (List.replicate k.toNat ws).flatten
noncomputable def lRep (a b : IE) : IL := fun env st => (a env st).bind fun x s1 => (b env s1).bind fun y s2 => match lstOf s2 x, y with
  | some xs, .int k => open Classical in if inR k ∧ xs.length * k.toNat ≤ lim then .ok (repW k xs) s2 else .stuck
  | _, _ => .stuck
section
variable {Γ : Gm} {X : Cx} {Z : WX} {α β γ : IE}
theorem RepL.rep {ρ : Pl} {H : Hp} {ws : List W} {vs : List V} (r : RepL Γ ρ H ws vs) : ∀ n : Nat, RepL Γ ρ H (List.replicate n ws).flatten (List.replicate n vs).flatten
  | 0 => rfl
  | n + 1 => by
    simp only [List.replicate_succ, List.flatten_cons]
    exact r.app (RepL.rep r n)
theorem l_rep {a b : Expr} {pos : Pos} (ha : PE X a (rd Γ Z α)) (hb : PE X b (rd Γ Z β)) : PE X (.BinOp a .Mult b pos) (rdL Γ Z (lRep α β)) := by
  refine PE.imp (pe_op op_rep ha hb) ?_
  rintro σ H Q ⟨ρ, env, st, hS, hE, h⟩
  refine ⟨ρ, env, st, hS, hE, (Post.bindL hS h).mono ?_⟩
  rintro v H1 ⟨w, s1, ρ1, e1, hS1, x1, r1, h1⟩
  refine ⟨ρ1, env, s1, hS1, hE.ext x1, (Post.bindL hS1 h1).mono ?_⟩
  rintro u H2 ⟨w2, s2, ρ2, e2, hS2, x2, r2, h2⟩
  split at h2
  · rename_i as k e3
    obtain ⟨a, vs, rfl, o1, q1⟩ := lstOf_ob hS2 (r1.ext x2) e3
    obtain rfl : u = .int k := r2
    split at h2
    · rename_i hz
      refine ⟨a, k, vs, rfl, rfl, o1, ?_, ?_, by rw [q1.len]; exact hz.2, fun p hp => ?_⟩
      · have := hz.1.1; omega
      · have := hz.1.2; omega
      exact h2 p _ ρ2 _ (Fresh.of hS2 hp (q1.rep _))
    · exact h2.elim
  · exact h2.elim
end
end M

-- Sound22
set_option Elab.async false
set_option autoImplicit false
set_option linter.all false
set_option maxRecDepth 100000
/-! dicts compared -/
namespace M
open PySem L2
/-- the same entries, whatever their order; flat ones -/
def DctSame (ks ls : List (W × W)) : Prop := ks.length = ls.length ∧ ∀ p ∈ ks, getD ls p.1 = some p.2 ∧ p.2.flat = true
open Classical in
noncomputable def opDSame (ans : Bool) : W → W → Store → R W := fun x y s => match dctOf s x, dctOf s y with
  | some ks, some ls => if DctSame ks ls then .ok (.bl ans) s else .stuck
  | _, _ => .stuck
section
variable {Γ : Gm} {X : Cx} {Z : WX} {α β : IE}
theorem flat_one {ρ : Pl} {H : Hp} {w : W} {v u : V} (r : RepV Γ ρ H w v) (q : RepV Γ ρ H w u) (f : w.flat = true) : v = u ∧ flatB v = true := by
  cases w <;> simp [W.flat] at f
  · cases r; cases q; exact ⟨rfl, rfl⟩
  · cases r; cases q; exact ⟨rfl, rfl⟩
  · cases r; cases q; exact ⟨rfl, rfl⟩
  · obtain ⟨x, rfl, h1⟩ := r
    obtain ⟨y, rfl, h2⟩ := q
    refine ⟨?_, rfl⟩
    have : x = y := by
      cases x; cases y
      congr 1
      exact Array.toList_inj.mp (by simp_all)
    rw [this]
theorem dct_same {ρ : Pl} {H : Hp} {ls : List (W × W)} {ms : List (L2.Key × V)} (hl : DRep Γ ρ H ls ms) : ∀ {ks : List (W × W)} {ns : List (L2.Key × V)}, DRep Γ ρ H ks ns → (∀ p ∈ ks, getD ls p.1 = some p.2 ∧ p.2.flat = true) → ∀ p ∈ ns, valV ms p.1 = some p.2 ∧ flatB p.2 = true
  | [], ns, h, _ => by
    obtain ⟨h1, _⟩ := h
    cases ns with
    | nil => intro p hp; cases hp
    | cons _ _ => simp at h1
  | p :: ks, ns, h, hs => by
    obtain ⟨k, v, r, rfl, e1, e2, e3⟩ := h.cons
    intro q hq
    rcases List.mem_cons.1 hq with rfl | hq
    · obtain ⟨g1, g2⟩ := hs p (by simp)
      rw [e1] at g1
      obtain ⟨u, hu, ru⟩ := (getD_rep k hl).1 _ g1
      obtain ⟨rfl, f⟩ := flat_one e2 ru g2
      exact ⟨hu, f⟩
    · exact dct_same hl e3 (fun p hp => hs p (List.mem_cons_of_mem _ hp)) q hq
theorem sem_DSame (ans : Bool) : SemOp Γ (fun x y H Q => ∃ a b ks ls, x = .ref a ∧ y = .ref b ∧ H a = some (.dK ks) ∧ H b = some (.dK ls) ∧ ks.length = ls.length ∧ (∀ p ∈ ks, valV ls p.1 = some p.2 ∧ flatB p.2 = true) ∧ Q (.bl ans) H) (opDSame ans) := by
  intro Z σ ρ H st x y xv yv Q hS rx ry h
  unfold opDSame at h
  split at h
  · rename_i ks ls e1 e2
    split at h
    · rename_i c
      obtain ⟨a, ns, rfl, o1, d1⟩ := dct_ob hS rx e1
      obtain ⟨b, ms, rfl, o2, d2⟩ := dct_ob hS ry e2
      exact ⟨a, b, ns, ms, rfl, rfl, o1, o2, by rw [d1.len, d2.len]; exact c.1, dct_same d2 d1 c.2, h _ ρ H hS .refl rfl⟩
    · exact h.elim
  · exact h.elim
end
end M

-- Sound23
set_option Elab.async false
set_option autoImplicit false
set_option linter.all false
set_option maxRecDepth 100000
/-! ranges as values -/
namespace M
open PySem L2 PySem.Spec PyProof.Rows
/-- range(j), range(i, j) as a thing -/
noncomputable def bRng1 (xs : List W) (st : Store) : R W := match xs with
  | [.int j] => open Classical in if inR j then .ok (.rng 0 j) st else .stuck
  | _ => .stuck
noncomputable def bRng2 (xs : List W) (st : Store) : R W := match xs with
  | [.int i, .int j] => open Classical in if inR i ∧ inR j then .ok (.rng i j) st else .stuck
  | _ => .stuck
/-- what a range holds -/
noncomputable def itRngV (x : W) (st : Store) : R It := match x with
  | .rng i j => open Classical in if inR i ∧ inR j then .ok ⟨upTo i (j - i).toNat, fun _ => True⟩ st else .stuck
  | _ => .stuck
noncomputable def iRngV (a : IE) : II := fun env st => (a env st).bind itRngV
section
variable {Γ : Gm} {X : Cx} {Z : WX} {α β γ : IE} {l : Expr} {tg : Expr}
theorem cr_range1' : CallR X (.type "range") (fun vs H Q => ∃ j, vs = [V.int j] ∧ ∀ p, H p = none → Q (.ref p) (upd H p (.rng 0 j))) := by
  intro pins s σ H vs us Q I r h
  obtain ⟨j, rfl, q⟩ := h
  obtain ⟨u1, rfl, ri⟩ := vals1 r
  obtain ⟨t, rfl⟩ := ri
  refine call_range_1 ⟨.ref s.heap.objs.size, upd H s.heap.objs.size (.rng 0 j), I.laid (t' := _) (fun b o e => Heap.get?_push_of_some _ e) (Nat.le_refl _) ?_, rfl, q _ (I.hok.fresh (Nat.le_refl _))⟩
  exact ⟨_, _, _, Heap.get?_push_size _ rfl⟩
theorem sem_rng1 : SemC Γ (fun vs H Q => ∃ j, vs = [V.int j] ∧ ∀ p, H p = none → Q (.ref p) (upd H p (.rng 0 j))) bRng1 := by
  intro Z σ ρ H st xs vs Q hS rl h
  unfold bRng1 at h
  split at h
  · rename_i j
    obtain ⟨v, _, rfl, rv, rfl⟩ := rl
    obtain rfl : v = .int j := rv
    split at h
    · exact ⟨j, rfl, fun p hp => h _ ρ _ (hS.free hp) (.free hp) ⟨p, rfl, ⟨upd_same, .inl (hS.new_ni hp), hS.new_no hp⟩⟩⟩
    · exact h.elim
  · exact h.elim
theorem sem_rng2 : SemC Γ (fun vs H Q => ∃ i j, vs = [V.int i, V.int j] ∧ ∀ p, H p = none → Q (.ref p) (upd H p (.rng i j))) bRng2 := by
  intro Z σ ρ H st xs vs Q hS rl h
  unfold bRng2 at h
  split at h
  · rename_i i j
    obtain ⟨v, _, rfl, rv, u, _, rfl, ru, rfl⟩ := rl
    obtain rfl : v = .int i := rv
    obtain rfl : u = .int j := ru
    split at h
    · exact ⟨i, j, rfl, fun p hp => h _ ρ _ (hS.free hp) (.free hp) ⟨p, rfl, ⟨upd_same, .inl (hS.new_ni hp), hS.new_no hp⟩⟩⟩
    · exact h.elim
  · exact h.elim
/-- a walk over a range that is held -/
theorem w_rngV (hl : PE X l (rd Γ Z α)) : PI X tg l (rdI Γ Z (iRngV α)) := by
  refine ⟨fun pins s σ H R I q => ?_⟩
  obtain ⟨ρ, env, st, hS, hE, q⟩ := q
  have q0 := Post.bindI (rep := RepV Γ) q
  refine thn (hl.run pins s σ H _ I ⟨ρ, env, st, hS, hE, q0.mono (Q' := fun v H1 => ∃ (a : Addr) (i j : Int), v = .ref a ∧ H1 a = some (.rng i j) ∧ inR i ∧ inR j ∧ R (Itr i (j - i).toNat) H1) ?_⟩) fun u s1 ⟨x, H1, I1, r1, hx⟩ => ?_
  · rintro v H1 ⟨w, s1, ρ1, e1, hS1, x1, r1, h1⟩
    unfold itRngV at h1
    split at h1
    · rename_i i j
      obtain ⟨a, rfl, va⟩ := r1
      split at h1
      · rename_i c
        exact ⟨a, i, j, rfl, va.1, c.1, c.2, h1 _ ρ1 H1 hS1 .refl (walks_rng i _ _ _)⟩
      · exact h1.elim
    · exact h1.elim
  · obtain ⟨a, i, j, rfl, ha, hi, hj, q⟩ := hx
    obtain rfl : u = .ref a := r1
    obtain ⟨t, u, v, ho⟩ := (show ObjOk X.prog X.w H1 s1.heap a (.rng i j) from I1.hok a _ ha)
    refine wpAny_pyIter_range (show IsRange s1.heap a i j 1 t u v from ho) (small_one hi.1 hi.2 hj.1 hj.2) ?_
    refine pi_one (tk := s1.toks) I1 _ (turn_range _ i (j - i).toNat) ?_ q
    have e1 : i + ((0 : Nat) : Int) * 1 = i := by simp
    have e2 : (((j - i).toNat : Nat) : Int) - ((0 : Nat) : Int) = Builtin.Range.rangeSize i j 1 := by rw [rangeSize_one]; split <;> omega
    show IsRangeIter _ _ (i + ((0 : Nat) : Int) * 1) ((((j - i).toNat : Nat) : Int) - ((0 : Nat) : Int)) 1
    rw [e1, e2]
    exact Heap.get?_push_size _ rfl
end
end M

-- Sound24
set_option Elab.async false
set_option autoImplicit false
set_option linter.all false
set_option maxRecDepth 100000
/-! in over lists of data of any depth -/
namespace M
open PySem L2
noncomputable def opInL (neg : Bool) (x y : W) (st : Store) : R W := match lstOf st y with
  | some ws => if x.okD 64 = true ∧ okDL ws 60 = true then .ok (.bl (if neg then !(ws.any fun z => z.eqv x) else ws.any fun z => z.eqv x)) st else .stuck
  | none => .stuck
section
variable {Γ : Gm} {X : Cx}
theorem u65 {k : Nat} {A : Around} (r : Room k A) : A.units + 65 < cLine := by
  have := r.un; omega
theorem any_eqv {x : W} {n m : Nat} (hx : x.okD n = true) : ∀ {ws : List W}, okDL ws m = true → (toPL ws).any (fun z => PyData.eqv z (toP x)) = ws.any fun z => z.eqv x
  | [], _ => rfl
  | w :: ws, h => by
    simp only [okDL, Bool.and_eq_true] at h
    simp only [toPL, List.any_cons, eqv_of h.1 hx, any_eqv hx h.2]
theorem shaped_list {ws : List W} (h : okDL ws 60 = true) : SeqAt.shaped (.list (toPL ws)) = true := by
  obtain ⟨h1, h2⟩ := shpL h
  unfold SeqAt.shaped
  simp [PyData.canLay0, PyData.depth, h1]
  omega
theorem sem_inL : SemOp Γ (rInD Γ.K) (opInL false) := by
  intro Z σ ρ H st x y xv yv Q hS rx ry h
  unfold opInL at h
  split at h
  · rename_i ws e
    split at h
    · rename_i c
      obtain ⟨a, vs, rfl, hq, rl⟩ := lstOf_ob hS ry e
      refine ⟨_, _, dp_of rx c.1, .lst (.of hq) (dpl_of rl c.2), ?_, shaped_list c.2, ?_⟩
      · exact shaped_of c.1
      · rw [any_eqv c.1 c.2]; exact h _ ρ H hS .refl rfl
    · exact h.elim
  · exact h.elim
theorem sem_ninL : SemOp Γ (rNotInD Γ.K) (opInL true) := by
  intro Z σ ρ H st x y xv yv Q hS rx ry h
  unfold opInL at h
  split at h
  · rename_i ws e
    split at h
    · rename_i c
      obtain ⟨a, vs, rfl, hq, rl⟩ := lstOf_ob hS ry e
      refine ⟨_, _, dp_of rx c.1, .lst (.of hq) (dpl_of rl c.2), ?_, shaped_list c.2, ?_⟩
      · exact shaped_of c.1
      · rw [any_eqv c.1 c.2]; exact h _ ρ H hS .refl rfl
    · exact h.elim
  · exact h.elim
end
end M

-- Sound25
set_option Elab.async false
set_option autoImplicit false
set_option linter.all false
set_option maxRecDepth 100000
/-! an object that was made stops changing, and its lists with it -/
namespace M
open PySem L2
def frzFs : List (String × W) → Store → Option (List (String × W) × Store)
  | [], s => some ([], s)
  | (f, w) :: r, s => match w with
    | .loc m => match s[m]? with
      | some (.lst ws) => (frzFs r (s.set m .gone)).map fun p => ((f, .lst ws) :: p.1, p.2)
      | some (.dict kvs) => (frzFs r (s.set m .gone)).map fun p => ((f, .dct (kvs.map (·.1)) (kvs.map (·.2))) :: p.1, p.2)
      | _ => none
    | w => (frzFs r s).map fun p => ((f, w) :: p.1, p.2)
def frzOb (x : W) (s : Store) : R W := match x with
  | .loc n => match s[n]? with
    | some (.obj c fs) => match frzFs fs s with
      | some (fs', s') => .ok (.ob c (fs'.map (·.1)) (fs'.map (·.2))) (s'.set n .gone)
      | none => .stuck
    | _ => .stuck
  | _ => .stuck
def eFrzO (a : IE) : IE := fun env st => (a env st).bind frzOb
section
variable {Γ : Gm} {Z : WX} {X : Cx} {α : IE} {e : Expr}
theorem frzFs_names : ∀ {fs fs' : List (String × W)} {s s' : Store}, frzFs fs s = some (fs', s') → fs'.map (·.1) = fs.map (·.1)
  | [], fs', s, s', h => by simp [frzFs] at h; rw [h.1.symm]
  | (f, w) :: r, fs', s, s', h => by
    have key : ∀ (w' : W) (s0 : Store), (frzFs r s0).map (fun p => ((f, w') :: p.1, p.2)) = some (fs', s') → fs'.map (·.1) = f :: r.map (·.1) := fun w' s0 h => by
      cases e : frzFs r s0 with
      | none => rw [e] at h; cases h
      | some p =>
        rw [e] at h
        simp only [Option.map_some, Option.some.injEq, Prod.mk.injEq] at h
        rw [← h.1, List.map_cons, frzFs_names (s' := p.2) e]
    unfold frzFs at h
    split at h
    · split at h
      · exact key _ _ h
      · exact key _ _ h
      · cases h
    · exact key _ _ h
theorem frzFs_rep : ∀ {fs fs' : List (String × W)} {s s' : Store} {ρ : Pl} {H : Hp} {us : List V}, RelS Γ ρ H s → RepL Γ ρ H (fs.map (·.2)) us → frzFs fs s = some (fs', s') →
    ∃ ρ', Ext Γ ρ H ρ' H ∧ RelS Γ ρ' H s' ∧ RepL Γ ρ' H (fs'.map (·.2)) us ∧ ρ'.at_ = ρ.at_ ∧ ρ'.off = ρ.off ∧ ∀ (n : Nat) (c : String) (gs : List (String × W)), s[n]? = some (.obj c gs) → s'[n]? = some (.obj c gs)
  | [], fs', s, s', ρ, H, us, hS, rl, h => by
    simp [frzFs] at h
    obtain ⟨rfl, rfl⟩ := h
    exact ⟨ρ, .refl, hS, rl, rfl, rfl, fun _ _ _ h => h⟩
  | (f, w) :: r, fs', s, s', ρ, H, us, hS, rl, h => by
    obtain ⟨v, us', rfl, rv, rl'⟩ := rl
    -- a thing that is as it is
    have plain : (frzFs r s).map (fun p => ((f, w) :: p.1, p.2)) = some (fs', s') → ∃ ρ', Ext Γ ρ H ρ' H ∧ RelS Γ ρ' H s' ∧ RepL Γ ρ' H (fs'.map (·.2)) (v :: us') ∧ ρ'.at_ = ρ.at_ ∧ ρ'.off = ρ.off ∧ ∀ (n : Nat) (c : String) (gs : List (String × W)), s[n]? = some (.obj c gs) → s'[n]? = some (.obj c gs) := fun h => by
      cases e : frzFs r s with
      | none => rw [e] at h; cases h
      | some p =>
        rw [e] at h
        simp only [Option.map_some, Option.some.injEq, Prod.mk.injEq] at h
        obtain ⟨rfl, rfl⟩ := h
        obtain ⟨ρ', x, hS', rl2, ea, eo, k⟩ := frzFs_rep hS rl' e
        exact ⟨ρ', x, hS', ⟨v, us', rfl, rv.ext x, rl2⟩, ea, eo, k⟩
    -- a list or a dict
    have frz : ∀ (m : Nat) (cl : Cell) (w' : W), w = .loc m → s[m]? = some cl → (∀ c gs, cl ≠ .obj c gs) → (∀ q, ρ.at_[m]? = some q → v = .ref q → RepV Γ (ρ.freeze q) H w' v) → (frzFs r (s.set m .gone)).map (fun p => ((f, w') :: p.1, p.2)) = some (fs', s') → ∃ ρ', Ext Γ ρ H ρ' H ∧ RelS Γ ρ' H s' ∧ RepL Γ ρ' H (fs'.map (·.2)) (v :: us') ∧ ρ'.at_ = ρ.at_ ∧ ρ'.off = ρ.off ∧ ∀ (n : Nat) (c : String) (gs : List (String × W)), s[n]? = some (.obj c gs) → s'[n]? = some (.obj c gs) := fun m cl w' ew es ho hw hh => by
      subst ew
      obtain ⟨q, rfl, hq⟩ := rv
      have fx : Ext Γ ρ H (ρ.freeze q) H := Ext.freeze
      cases e : frzFs r (s.set m .gone) with
      | none => rw [e] at hh; cases hh
      | some p =>
        rw [e] at hh
        simp only [Option.map_some, Option.some.injEq, Prod.mk.injEq] at hh
        obtain ⟨rfl, rfl⟩ := hh
        obtain ⟨ρ', x, hS', rl2, ea, eo, k⟩ := frzFs_rep (hS.freeze hq es) (rl'.ext fx) e
        refine ⟨ρ', fx.trans x, hS', ⟨_, us', rfl, (hw q hq rfl).ext x, rl2⟩, ea, eo, fun n c gs h2 => k n c gs ?_⟩
        have : m ≠ n := fun e => by subst e; rw [es] at h2; exact ho c gs (Option.some.inj h2)
        rw [List.getElem?_set_ne this]; exact h2
    have nf : ∀ {m q : _}, ρ.at_[m]? = some q → q ∉ ρ.off := fun {m q} hq z => (hS.offs q z).2 (List.mem_of_getElem? hq)
    have zz : ∀ q, (q ∉ (ρ.freeze q).at_ ∨ q ∈ (ρ.freeze q).fz) := fun q => .inr (List.mem_cons_self ..)
    unfold frzFs at h
    split at h
    · rename_i m
      split at h
      · rename_i ws es
        refine frz m _ (.lst ws) rfl es (fun _ _ h => by cases h) (fun q hq ev => ?_) h
        obtain ⟨vs, ob, rl3⟩ := hS.at_ m _ q es hq
        exact ⟨q, vs, ev, ⟨ob, zz q, nf hq⟩, rl3.ext Ext.freeze⟩
      · rename_i kvs es
        refine frz m _ _ rfl es (fun _ _ h => by cases h) (fun q hq ev => ?_) h
        obtain ⟨vs, ob, k, rl3⟩ := hS.at_ m _ q es hq
        exact ⟨q, vs, ev, ⟨ob, zz q, nf hq⟩, k, rl3.ext Ext.freeze⟩
      · cases h
    · exact plain h
theorem i_frzO (h : PE X e (rd Γ Z α)) : PE X e (rd Γ Z (eFrzO α)) := by
  refine PE.imp h ?_
  rintro σ H Q ⟨ρ, env, st, hS, hE, hp⟩
  unfold eFrzO at hp
  refine ⟨ρ, env, st, hS, hE, (Post.bind hp).mono ?_⟩
  rintro v H1 ⟨w, s1, ρ1, e1, hS1, x1, r1, g⟩
  unfold frzOb at g
  split at g
  · rename_i n
    split at g
    · rename_i c fs en
      split at g
      · rename_i fs' s' ef
        obtain ⟨q, rfl, hq⟩ := r1
        obtain ⟨C, dx, gs, c1, ob, k, rl⟩ := hS1.at_ n _ q en hq
        obtain ⟨ρ2, x2, hS2, rl2, ea, eo, kk⟩ := frzFs_rep hS1 rl ef
        have hq2 : ρ2.at_[n]? = some q := by rw [ea]; exact hq
        have fx : Ext Γ ρ2 H1 (ρ2.freeze q) H1 := Ext.freeze
        have nf : q ∉ ρ2.off := fun z => (hS2.offs q z).2 (List.mem_of_getElem? hq2)
        refine g _ (ρ2.freeze q) H1 (hS2.freeze hq2 (kk n c fs en)) (x2.trans fx) ⟨q, C, dx, gs, rfl, c1, ⟨ob, .inr (List.mem_cons_self ..), nf⟩, ?_, rl2.ext fx⟩
        rw [k, frzFs_names ef, List.map_map]; rfl
      · exact g.elim
    · exact g.elim
  · exact g.elim
end
end M

-- Sound26
set_option Elab.async false
set_option autoImplicit false
set_option linter.all false
set_option maxRecDepth 100000
/-! calls with keywords -/
namespace M
open Classical
/-- keywords' values (true) and defaults (false) in the parameters' order -/
def mrg {α : Type} : List Bool → List α → List α → List α
  | [], _, _ => []
  | true :: bs, k :: ks, ds => k :: mrg bs ks ds
  | true :: _, [], _ => []
  | false :: bs, ks, d :: ds => d :: mrg bs ks ds
  | false :: _, _, [] => []
def fit : List Bool → Nat → Nat → Bool
  | [], 0, 0 => true
  | true :: bs, a + 1, b => fit bs a b
  | false :: bs, a, b + 1 => fit bs a b
  | _, _, _ => false
def cst (w : W) : IE := fun _ st => .ok w st
theorem eArgs_len : ∀ {αs : List IE} {env : List (Option W)} {st : Store} {ws : List W} {s : Store}, eArgs αs env st = .ok ws s → ws.length = αs.length
  | [], _, _, _, _, e => by cases e; rfl
  | a :: r, env, st, ws, s, e => by
    unfold eArgs at e
    cases g1 : a env st with
    | ok w s1 =>
      rw [g1] at e
      cases g2 : eArgs r env s1 with
      | ok xs s2 => simp [g2] at e; obtain ⟨rfl, _⟩ := e; simp [eArgs_len g2]
      | exc x s2 => simp [g2] at e
      | stuck => simp [g2] at e
    | exc x s1 => rw [g1] at e; cases e
    | stuck => rw [g1] at e; cases e
theorem eArgs_app : ∀ (αs βs : List IE) (env : List (Option W)) (st : Store), eArgs (αs ++ βs) env st = (eArgs αs env st).bind fun xs s => (eArgs βs env s).bind fun ys s2 => .ok (xs ++ ys) s2
  | [], βs, env, st => by
    show eArgs βs env st = (eArgs βs env st).bind fun ys s2 => .ok ys s2
    cases eArgs βs env st <;> rfl
  | a :: r, βs, env, st => by
    show ((a env st).bind fun x s1 => (eArgs (r ++ βs) env s1).bind fun xs s2 => .ok (x :: xs) s2) = (((a env st).bind fun x s1 => (eArgs r env s1).bind fun xs s2 => .ok (x :: xs) s2)).bind fun xs s => (eArgs βs env s).bind fun ys s2 => .ok (xs ++ ys) s2
    cases a env st with
    | ok w s1 =>
      show ((eArgs (r ++ βs) env s1).bind fun xs s2 => .ok (w :: xs) s2) = (((eArgs r env s1).bind fun xs s2 => .ok (w :: xs) s2)).bind fun xs s => (eArgs βs env s).bind fun ys s2 => .ok (xs ++ ys) s2
      rw [eArgs_app r βs env s1]
      cases eArgs r env s1 with
      | ok xs s2 =>
        show (((eArgs βs env s2).bind fun ys s3 => R.ok (xs ++ ys) s3)).bind (fun xs s2 => R.ok (w :: xs) s2) = (eArgs βs env s2).bind fun ys s3 => .ok (w :: xs ++ ys) s3
        cases eArgs βs env s2 <;> rfl
      | exc x s2 => rfl
      | stuck => rfl
    | exc x s1 => rfl
    | stuck => rfl
theorem eArgs_mrg : ∀ (bs : List Bool) (κs : List IE) (dw : List W) (env : List (Option W)) (st : Store), fit bs κs.length dw.length = true → eArgs (mrg bs κs (dw.map cst)) env st = (eArgs κs env st).bind fun ws s => .ok (mrg bs ws dw) s
  | [], [], [], env, st, _ => rfl
  | [], _ :: _, _, env, st, h => by simp [fit] at h
  | [], [], _ :: _, env, st, h => by simp [fit] at h
  | true :: bs, [], dw, env, st, h => by simp [fit] at h
  | true :: bs, k :: κs, dw, env, st, h => by
    show ((k env st).bind fun x s1 => (eArgs (mrg bs κs (dw.map cst)) env s1).bind fun xs s2 => .ok (x :: xs) s2) = (((k env st).bind fun x s1 => (eArgs κs env s1).bind fun xs s2 => .ok (x :: xs) s2)).bind fun ws s => .ok (mrg (true :: bs) ws dw) s
    cases k env st with
    | ok w s1 =>
      show ((eArgs (mrg bs κs (dw.map cst)) env s1).bind fun xs s2 => .ok (w :: xs) s2) = (((eArgs κs env s1).bind fun xs s2 => .ok (w :: xs) s2)).bind fun ws s => .ok (mrg (true :: bs) ws dw) s
      rw [eArgs_mrg bs κs dw env s1 (by simpa [fit] using h)]
      cases eArgs κs env s1 <;> rfl
    | exc x s1 => rfl
    | stuck => rfl
  | false :: bs, κs, [], env, st, h => by simp [fit] at h
  | false :: bs, κs, d :: dw, env, st, h => by
    show ((eArgs (mrg bs κs (dw.map cst)) env st).bind fun xs s2 => .ok (d :: xs) s2) = _
    rw [eArgs_mrg bs κs dw env st (by simpa [fit] using h)]
    cases eArgs κs env st <;> rfl
open PySem L2
theorem mrg_vals : ∀ {bs : List Bool} {vs : List V} {us : List Value} {ds : List V} {ms : List Value}, Vals vs us → Vals ds ms → Vals (mrg bs vs ds) (mrg bs us ms)
  | [], _, _, _, _, _, _ => .nil
  | true :: bs, _, _, _, _, .nil, _ => .nil
  | true :: bs, _, _, _, _, .cons a r, d => .cons a (mrg_vals r d)
  | false :: bs, _, _, _, _, _, .nil => .nil
  | false :: bs, _, _, _, _, r, .cons a d => .cons a (mrg_vals r d)
theorem mrg_rep {Γ : Gm} {ρ : Pl} {H : Hp} : ∀ {bs : List Bool} {ws : List W} {vs : List V} {dw : List W} {dv : List V}, RepL Γ ρ H ws vs → RepL Γ ρ H dw dv → RepL Γ ρ H (mrg bs ws dw) (mrg bs vs dv)
  | [], _, _, _, _, _, _ => rfl
  | true :: bs, [], _, _, _, h, _ => by cases h; rfl
  | true :: bs, w :: ws, _, _, _, h, d => by
    obtain ⟨v, r, rfl, a, b⟩ := h
    exact .cons a (mrg_rep b d)
  | false :: bs, _, _, [], _, _, h => by cases h; rfl
  | false :: bs, _, _, w :: ws, _, d, h => by
    obtain ⟨v, r, rfl, a, b⟩ := h
    exact .cons a (mrg_rep d b)
/-- how a call with n values and the keywords ks binds -/
def KB (K : PySem.W.Frag) (fd : FuncData) (ps : List Str) (n : Nat) (ks : List Str) (bs : List Bool) (dv : List V) : Prop := ∃ mv : List Value, KBn K fd ps n ks (fun us ws => us ++ mrg bs ws mv) (fun vs zs => vs ++ mrg bs zs dv)
/-- a def with keyword-only defaults -/
theorem KB.mk {K : PySem.W.Frag} {x qual : Str} {params : Arguments} {body : List Stmt} {scope : Scope} {kws : List (Str × V)} {f : Addr} {fd : FuncData} {ps : List Str} (F : FunD K x qual params body scope [] kws f fd) (n : Nat) (ks : List Str) (bs : List Bool) (ms : List (Str × V)) (hk : kws ≠ []) (hms : ∀ q ∈ ms, q ∈ kws)
    (h : ∀ (D : Addr) (doc pm : Value) (an : Option Addr) (cdv ct : Value) (us mv ws : List Value), us.length = n → mv.length = ms.length → ws.length = ks.length →
      KwChain D ((ms.map (·.1)).zip mv) (bindArgs (PySem.W.fnOf x qual params body scope .none (.ref D) doc pm an cdv ct) ⟨us, ks.zip ws⟩) (ps.zip (us ++ mrg bs ws mv))) : KB K fd ps n ks bs (ms.map (·.2)) :=
  FunD.kbinds0 F n ks ms (fun us mv ws => us ++ mrg bs ws mv) hk hms (fun a b c => a.append (mrg_vals c b)) h
section
variable {Γ : Gm} {Z : WX} {X : Cx} {α : IE} {o e : Expr} {es : List Expr} {kws : List Keyword} {p pos apos kpos : Pos} {C : Addr} {c m : String} {nm : Option Str}
theorem kw_nil : PK X [] (rdA Γ Z (eArgs [])) := ⟨fun pos pins s σ H Q I ⟨ρ, env, st, hS, hE, h⟩ => pk_nil.run pos pins s σ H Q I (h [] ρ H hS .refl rfl)⟩
theorem kw_cons {αs : List IE} (ha : PE X e (rd Γ Z α)) (hr : PK X kws (rdA Γ Z (eArgs αs))) : PK X (⟨nm, e, kpos⟩ :: kws) (rdA Γ Z (eArgs (α :: αs))) := ⟨fun pos pins s σ H Q I q => (pk_cons ha hr).run pos pins s σ H Q I (by
  obtain ⟨ρ, env, st, hS, hE, h⟩ := q
  refine ⟨ρ, env, st, hS, hE, (Post.bind h).mono ?_⟩
  rintro v H1 ⟨w, s1, ρ1, e1, hS1, x1, r1, h1⟩
  refine ⟨ρ1, env, s1, hS1, hE.ext x1, (Post.bind h1).mono ?_⟩
  rintro u H2 ⟨w2, s2, ρ2, e2, hS2, x2, r2, h2⟩
  exact h2 (v :: u) ρ2 H2 hS2 .refl (.cons (r1.ext x2) r2))⟩
variable {k n : Nat} {fa : Addr} {fd : FuncData} {ps ks : List Str} {sp : Sp} {E : St → XK} {ta : TE} {t tk : TA} {m' : Str} {g : List Value → List Value → List Value} {gV : List V → List V → List V} {CX : CXT}
theorem run_fnNS {pins : List (Addr × Obj)} {σ : St} {H : Hp} {s : Shared} {Q : VK} {us ws : List Value} {vs zs : List V} (F : FnOk X.prog X.w X.K X.mg X.base CX k fa fd ps sp) (hr : Room k X.A) (hb : KBn X.K fd ps n ks g gV) (hx : PassesAt CX X σ (E σ))
    (I : Inv X pins σ H s) (r : Vals vs us) (rz : Vals zs ws) (l1 : vs.length = n) (l2 : zs.length = ks.length) (h : sp (gV vs zs) H Q (E σ)) : wpAny (model X.prog X.w) X.A (call (.ref fa) us (ks.zip ws)) (EP X pins σ Q) X.xe s := by
  have r2 := hb.rel r rz
  refine wpAny_call (codeAny_mono (F.run X.A X.stack s H ⟨us, ks.zip ws⟩ (g us ws) (gV vs zs) Q (E σ) hr I.env0 (hb.to s us ws I.kIn (r.length.symm.trans l1) (rz.length.symm.trans l2)) r2 h) fun r s' hq => ?_)
  cases r with
  | error e => exact hx pins H s e s' I hq
  | ok fl =>
    cases fl with
    | ret u => exact I.after hq
    | next => exact False.elim hq
    | brk => exact False.elim hq
    | cont => exact False.elim hq
/-- o.m(.., k = v): a method -/
def tMtK (C : Addr) (m : Str) (n q : Nat) (sp : Sp) (gV : List V → List V → List V) (E : St → XK) (ta : TE) (t tk : TA) : TE := fun σ H Q => ta σ H fun x H1 => ∃ a dx fs, x = .ref a ∧ H1 a = some (.ins C dx fs) ∧ fs.lookup m = none ∧ t σ H1 fun vs H2 => tk σ H2 fun zs H3 => vs.length + 1 = n ∧ zs.length = q ∧ sp (gV (x :: vs) zs) H3 Q (E σ)
theorem pe_mtK {pl : Sem Bool} (hO : PE X o ta) (hC : Cls X.K C) (hM : Meth X.K C m' fa) (hF : FnOk X.prog X.w X.K X.mg X.base (L2.CX X.prog X.w) k fa fd ps sp) (hR : Room k X.A) (hB : KBn X.K fd ps n ks g gV) (hP : ∀ σ, PassesAt (L2.CX X.prog X.w) X σ (E σ)) (hA : PA X (e :: es) t) (hK : PK X kws tk)
    (hall : (backToKw pos (keywordEach kws X.env)).all (·.1.isSome) = true := by rfl) (hks : (backToKw pos (keywordEach kws X.env)).filterMap (·.1) = ks := by rfl)
    (he : starEach (e :: es) X.env = (false, eval e X.env) :: starEach es X.env := by rfl)
    (hpl : ((backTo pos (starEach (e :: es) X.env)).any (·.1) || (backToKw pos (keywordEach kws X.env)).any (·.1.isNone)) = false := by rfl)
    (h3 : eval (.Call (.Attribute o m' apos) (e :: es) kws pos) X.env = (eval o X.env >>= fun ov => standAt apos.atName >>= fun _ => holding [ov] (getMethod ov m' pl) >>= fun q => callWith pos q.1 q.2 (backTo pos (starEach (e :: es) X.env)) (backToKw pos (keywordEach kws X.env))) := by rfl) :
    PE X (.Call (.Attribute o m' apos) (e :: es) kws pos) (tMtK C m' n ks.length sp gV E ta t tk) := ⟨fun pins s σ H Q I q0 =>
  PySem.W.methodCall_KW (pl := pl) (thn (hO.run pins s σ H _ I q0) fun u s1 hq => by
    obtain ⟨x, H1, I1, rx, a, dx, fs, ex, ea, l, q1⟩ := hq
    subst ex
    cases rx
    refine getmeth_ok I1 ea hC hM l (PySem.W.callWith_KW (first := [.ref a]) (h₀ := X.base) I.ok.mod.kin hM.kp hall (thn (hA.run pos pins s1 σ H1 _ I1 q1) fun us s2 hq2 => ?_) hpl he)
    obtain ⟨vs, H2, I2, rv, q2⟩ := hq2
    refine thn (hK.run pos pins s2 σ H2 _ I2 q2) fun ws s3 ⟨zs, H3, I3, rz, l1, l2, q3⟩ => ⟨I3.kIn, ?_⟩
    rw [hks]
    exact run_fnNS (us := .ref a :: us) (vs := .ref a :: vs) hF hR hB (hP σ) I3 (.cons rfl rv) rz l1 l2 q3) h3⟩
theorem i_methK {αs κs : List IE} {bs : List Bool} {dw : List W} {dv : List V} {fn : Fn} {pl : Sem Bool} (hcl : Γ.oc c = some (.ref C)) (hC : Cls X.K C) (hM : Meth X.K C (Str.ofString m) fa) (hF : FnOk X.prog X.w X.K X.mg X.base (L2.CX X.prog X.w) k fa fd ps (spI Γ ps.length fn)) (hR : Room k X.A) (hB : KB X.K fd ps (αs.length + 1) ks bs dv) (tk : Takes X Z) (hO : PE X o (rd Γ Z α)) (hA : PA X (e :: es) (rdA Γ Z (eArgs αs))) (hK : PK X kws (rdA Γ Z (eArgs κs)))
    (hd : ∀ ρ H, RepL Γ ρ H dw dv) (hf : fit bs κs.length dw.length = true := by rfl) (hl : αs.length + 1 + bs.length = ps.length := by rfl) (hq : κs.length = ks.length := by rfl)
    (hall : (backToKw pos (keywordEach kws X.env)).all (·.1.isSome) = true := by rfl) (hks : (backToKw pos (keywordEach kws X.env)).filterMap (·.1) = ks := by rfl)
    (he : starEach (e :: es) X.env = (false, eval e X.env) :: starEach es X.env := by rfl)
    (hpl : ((backTo pos (starEach (e :: es) X.env)).any (·.1) || (backToKw pos (keywordEach kws X.env)).any (·.1.isNone)) = false := by rfl)
    (h3 : eval (.Call (.Attribute o (Str.ofString m) apos) (e :: es) kws pos) X.env = (eval o X.env >>= fun ov => standAt apos.atName >>= fun _ => holding [ov] (getMethod ov (Str.ofString m) pl) >>= fun q => callWith pos q.1 q.2 (backTo pos (starEach (e :: es) X.env)) (backToKw pos (keywordEach kws X.env))) := by rfl) :
    PE X (.Call (.Attribute o (Str.ofString m) apos) (e :: es) kws pos) (rd Γ Z (eMeth c m fn α (αs ++ mrg bs κs (dw.map cst)))) := by
  obtain ⟨mv, hB⟩ := hB
  refine PE.imp (pe_mtK (E := fun σ => WE Z σ) hO hC hM hF hR hB (fun σ => passAt tk σ) hA hK hall hks he hpl h3) ?_
  rintro σ H Q ⟨ρ, env, st, hS, hE, h⟩
  unfold eMeth at h
  refine ⟨ρ, env, st, hS, hE, (Post.bind h).mono ?_⟩
  rintro v H1 ⟨w, s1, ρ1, e1, hS1, x1, r1, h1⟩
  by_cases ho : isObj s1 c m w
  · rw [if_pos ho, eArgs_app] at h1
    obtain ⟨a, dx, gs, C', rfl, hc, hi, l⟩ := obj_rep hS1 r1 ho
    rw [hcl] at hc; cases hc
    have e9 : (((eArgs αs env s1).bind fun xs s => (eArgs (mrg bs κs (dw.map cst)) env s).bind fun ys s2 => R.ok (xs ++ ys) s2).bind fun xs s2 => fn (w :: xs) s2) = (eArgs αs env s1).bind fun xs s => (eArgs κs env s).bind fun ys s2 => fn (w :: (xs ++ mrg bs ys dw)) s2 := by
      cases eArgs αs env s1 with
      | ok xs s =>
        show (((eArgs (mrg bs κs (dw.map cst)) env s).bind fun ys s2 => R.ok (xs ++ ys) s2).bind fun xs s2 => fn (w :: xs) s2) = (eArgs κs env s).bind fun ys s2 => fn (w :: (xs ++ mrg bs ys dw)) s2
        rw [eArgs_mrg bs κs dw env s hf]
        cases eArgs κs env s <;> rfl
      | exc x s => rfl
      | stuck => rfl
    rw [e9] at h1
    refine ⟨a, dx, gs, rfl, hi, l, ρ1, env, s1, hS1, hE.ext x1, (Post.bind h1).mono ?_⟩
    rintro vs H2 ⟨ws, s2, ρ2, e2, hS2, x2, r2, h2⟩
    refine ⟨ρ2, env, s2, hS2, (hE.ext x1).ext x2, (Post.bind h2).mono ?_⟩
    rintro zs H3 ⟨xs, s3, ρ3, e3, hS3, x3, r3, h3⟩
    have l1 := r2.len
    rw [eArgs_len e2] at l1
    have l2 := r3.len
    rw [eArgs_len e3] at l2
    have rr : RepL Γ ρ3 H3 (w :: (ws ++ mrg bs xs dw)) (.ref a :: (vs ++ mrg bs zs dv)) := .cons ((r1.ext x2).ext x3) (RepL.app (r2.ext x3) (mrg_rep r3 (hd ρ3 H3)))
    refine ⟨by rw [l1], l2.trans hq, ?_, ρ3, s3, _, hS3, rr, ?_⟩
    · rw [← hl]
      have fl : ∀ (bs : List Bool) (zs dv : List V), fit bs zs.length dv.length = true → (mrg bs zs dv).length = bs.length := by
        intro bs
        induction bs with
        | nil => intro zs dv _; rfl
        | cons b bs ih =>
          intro zs dv hh
          cases b with
          | true => cases zs with
            | nil => simp [fit] at hh
            | cons z zs => simp [mrg, ih zs dv (by simpa [fit] using hh)]
          | false => cases dv with
            | nil => simp [fit] at hh
            | cons d dv => simp [mrg, ih zs dv (by simpa [fit] using hh)]
      have := fl bs zs dv (by rw [l2, (hd ρ3 H3).len]; exact hf)
      simp [l1, this]; omega
    · cases e4 : fn (w :: (ws ++ mrg bs xs dw)) s3 with
      | ok u s4 => rw [e4] at h3; exact h3
      | exc y s4 => rw [e4] at h3; exact h3
      | stuck => rw [e4] at h3; exact h3
  · rw [if_neg ho] at h1; exact h1.elim
end
end M

-- Sound27
set_option Elab.async false
set_option autoImplicit false
set_option linter.all false
set_option maxRecDepth 100000
/-! an object's own __len__, __invert__ -/
namespace M
open Classical
def R.isLen : R W → Prop
  | .ok (.int i) _ => 0 ≤ i ∧ i < 2 ^ 63
  | _ => False
/-- len(o) -/
noncomputable def eLenO (c : String) (f : Fn) (o : IE) : IE := fun env st => (o env st).bind fun x s => if isObj s c "__len__" x ∧ (f [x] s).isLen then f [x] s else .stuck
/-- ~o and the like: a method m of the class, called by an operator -/
noncomputable def eUnO (c m : String) (f : Fn) (o : IE) : IE := fun env st => (o env st).bind fun x s => if isObj s c m x ∧ (f [x] s).okOnly then f [x] s else .stuck
open PySem L2
section
variable {Γ : Gm} {Z : WX} {X : Cx} {α : IE} {o e : Expr} {p pos apos : Pos} {C : Addr} {c m : String}
variable {k n : Nat} {fa : Addr} {fd : FuncData} {ps : List Str} {sp : Sp}
theorem own_run {A1 : Around} {pins : List (Addr × Obj)} {σ : St} {H : Hp} {s : Shared} {Q : VK} {us : List Value} {vs : List V} {E' : Value → Shared → Prop} (e0 : Env0 X.prog X.w X.K X.mg X.base A1 X.stack s H) (hr : Room k A1) (F : FnOk X.prog X.w X.K X.mg X.base (L2.CX X.prog X.w) k fa fd ps sp) (hb : Binds X.K fd ps [])
    (I : Inv X pins σ H s) (r : Vals vs us) (h : sp vs H Q (fun _ _ _ => False)) : wpAny (model X.prog X.w) A1 (call (.ref fa) us) (EP X pins σ Q) E' s := by
  have hl : us.length = ps.length := by rw [← r.length]; exact F.len _ _ _ _ h
  have b := hb s us I.kIn (by rw [List.append_nil]; exact hl)
  rw [List.append_nil] at b
  refine wpAny_call (codeAny_mono (F.run A1 X.stack s H ⟨us, []⟩ us vs Q (fun _ _ _ => False) hr e0 b r h) fun r s' hq => ?_)
  cases r with
  | error e =>
    obtain ⟨_, _, _, _, _, _, _, _, _, _, _, _, z⟩ := hq
    exact z.elim
  | ok fl =>
    cases fl with
    | ret u => exact I.after hq
    | next => exact False.elim hq
    | brk => exact False.elim hq
    | cont => exact False.elim hq
theorem call_lenO (hs : PySem.W.findIn X.K (.ref C) "__len__" = some (some (.ref fa))) (hf : PySem.W.isFn X.K (.ref fa) = true) (F : FnOk X.prog X.w X.K X.mg X.base (L2.CX X.prog X.w) k fa fd ps sp) (hR : Room (k + 1) X.A) (hB : Binds X.K fd ps []) :
    CallR X (.builtin "len") (fun xs H Q => ∃ a dx fs, xs = [.ref a] ∧ H a = some (.ins C dx fs) ∧ sp [.ref a] H (fun v H2 => ∃ i, v = .int i ∧ 0 ≤ i ∧ i < 2 ^ 63 ∧ Q (.int i) H2) (fun _ _ _ => False)) := by
  intro pins s σ H xs us Q I r h
  obtain ⟨a, dx, fs, rfl, ea, q⟩ := h
  obtain ⟨u, rfl, ru⟩ := vals1 r
  obtain rfl : u = Value.ref a := ru
  obtain ⟨mA, O, _⟩ := ins_get I.hok ea
  obtain ⟨od, J, _⟩ := O.look
  refine Calls.call_function_entry kind_len plain_len entry_len (args_len1 _) ?_
  unfold Builtin.«len»
  refine wpAny_bind (m := oneArg "len" _) (wpAny_pure ?_)
  refine wpAny_bind (m := callSpecial? (.ref a) (PySem.Str.ofString "__len__")) (PySem.W.special_fn I.kIn J hs (beq_iff_eq.mp hf) ?_)
  refine thn (own_run (k := k) (vs := [.ref a]) I.env0.in1 hR.in1 F hB I (.cons rfl .nil) q) fun u s' hq => ?_
  obtain ⟨v, H', I', rv, i, rfl, h0, h1, q⟩ := hq
  obtain ⟨t, rfl⟩ := rv
  refine wpAny_bind (wpAny_holding (wpAny_pure ?_))
  refine wpAny_bind (wpAny_letGo ?_)
  show wpAny _ _ (if i < 0 then _ else _) _ _ _
  rw [if_neg (by omega)]
  show wpAny _ _ (if i ≥ 2 ^ 63 then _ else _) _ _ _
  rw [if_neg (by omega)]
  exact wpAny_bind (wpAny_mkInt (wpAny_pure ⟨_, rfl, ⟨.int i, H', I'.tok _, ⟨_, rfl⟩, q⟩⟩))
theorem spI_one {fn : Fn} {ρ : Pl} {H : Hp} {st : Store} {w : W} {a : Addr} {Q : VK} {σ : L2.St} (hS : RelS Γ ρ H st) (r : RepV Γ ρ H w (.ref a)) (hok : (fn [w] st).okOnly) (hp : Post Γ (RepV Γ) Z σ ρ H Q (fn [w] st)) : spI Γ 1 fn [.ref a] H Q (fun _ _ _ => False) := by
  refine ⟨rfl, ρ, st, [w], hS, .one r, ?_⟩
  cases e2 : fn [w] st with
  | ok u s2 => rw [e2] at hp; exact hp
  | exc y s2 => rw [e2] at hok; exact hok.elim
  | stuck => rw [e2] at hok; exact hok.elim
theorem i_lenO {fn : Fn} (hcl : Γ.oc c = some (.ref C)) (hM : Meth X.K C (Str.ofString "__len__") fa) (hF : FnOk X.prog X.w X.K X.mg X.base (L2.CX X.prog X.w) k fa fd ps (spI Γ 1 fn)) (hR : Room (k + 1) X.A) (hB : Binds X.K fd ps []) (hm : X.mg "len" = none) (ho : PE X o (rd Γ Z α)) (hg : Gl X "len" := by rfl)
    (he : starEach [o] X.env = (false, eval o X.env) :: starEach [] X.env := by rfl) (hpl : (backTo pos (starEach [] X.env)).any (·.1) = false := by rfl) : PE X (.Call (.Name "len" p) [o] [] pos) (rd Γ Z (eLenO c fn α)) := by
  refine PE.imp (pe_callB (call_lenO hM.at_ hM.fn hF hR hB) hg hm (by decide +kernel) (pa_cons ho pa_nil he) (by decide) (by decide) he hpl) ?_
  rintro σ H Q ⟨ρ, env, st, hS, hE, h⟩
  unfold eLenO at h
  refine ⟨ρ, env, st, hS, hE, (Post.bind h).mono ?_⟩
  rintro v H1 ⟨w, s1, ρ1, e1, hS1, x1, r1, h1⟩
  by_cases ho : isObj s1 c "__len__" w ∧ (fn [w] s1).isLen
  · rw [if_pos ho] at h1
    obtain ⟨ho, hl⟩ := ho
    obtain ⟨a, dx, gs, C', rfl, hc, hi, l⟩ := obj_rep hS1 r1 ho
    rw [hcl] at hc; cases hc
    refine ⟨a, dx, gs, rfl, hi, ?_⟩
    cases e2 : fn [w] s1 with
    | ok u s2 =>
      rw [e2] at hl h1
      cases u with
      | int i =>
        refine spI_one (Z := Z) (σ := σ) hS1 r1 (by rw [e2]; trivial) ?_
        rw [e2]
        intro v ρ' H' a1 a2 a3
        exact ⟨i, a3, hl.1, hl.2, h1 _ ρ' H' a1 a2 rfl⟩
      | _ => exact hl.elim
    | exc y s2 => rw [e2] at hl; exact hl.elim
    | stuck => rw [e2] at hl; exact hl.elim
  · rw [if_neg ho] at h1; exact h1.elim
end
end M

-- Sound28
set_option Elab.async false
set_option autoImplicit false
set_option linter.all false
set_option maxRecDepth 100000
/-! several except clauses -/
namespace M
open Classical
def handM : List (List String × IS) → Ex → Env → Store → RS
  | [], x, e, s => .exc x e s
  | (subs, ς) :: r, x, e, s => if subs.contains x.c = true then (match ς e s with
    | .exc _ _ _ => .stuck
    | q => q) else handM r x e s
def sTryM (β : IS) (l : List (List String × IS)) : IS := fun env st => match β env st with
  | .exc x e s => handM l x e s
  | r => r
theorem sTryM_nil (β : IS) : sTryM β [] = β := by
  funext env st
  unfold sTryM
  cases β env st <;> rfl
theorem sTryM_cons (β ς : IS) (subs : List String) (l : List (List String × IS)) : sTryM β ((subs, ς) :: l) = sTryM (sTry subs β ς) l := by
  funext env st
  unfold sTryM
  simp only [sTry]
  cases e : β env st with
  | exc x e1 s1 =>
    simp only [handM]
    by_cases h : subs.contains x.c = true
    · simp only [if_pos h]
      cases e2 : ς e1 s1 <;> rfl
    · simp only [if_neg h]
  | _ => rfl
noncomputable def opIxS (x y : W) (st : Store) : R W := match x, y with
  | .str s, .int i => if 0 ≤ i ∧ i < 2 ^ 63 then (match s[i.toNat]? with
    | some c => .ok (.str [c]) st
    | none => .stuck) else .stuck
  | _, _ => .stuck
open PySem L2
section
variable {Γ : Gm} {Z : WX} {X : Cx} {β : IS} {body : List Stmt} {pos : Pos}
theorem i_ixS {a b : Expr} {α β : IE} (ha : PE X a (rd Γ Z α)) (hb : PE X b (rd Γ Z β)) (hs : PlainIxT b := by exact fun _ _ => rfl) : PE X (.Subscript a b pos) (rd Γ Z (eOp opIxS α β)) := by
  refine PE.imp (pe_item_str ha hb hs) fun σ H Q h => rd_op (r := fun x y H Q => ∃ z i c, x = .str z ∧ y = .int i ∧ 0 ≤ i ∧ i < 2 ^ 63 ∧ i < z.length ∧ z.cps[i.toNat]? = some c ∧ Q (.str ⟨#[c]⟩) H) ?_ h
  intro Z σ ρ H st x y xv yv Q hS rx ry h
  unfold opIxS at h
  split at h
  · rename_i s i
    obtain ⟨z, rfl, hz⟩ := rx
    cases ry
    split at h
    · rename_i hi
      split at h
      · rename_i c e
        have hl := (List.getElem?_eq_some_iff.mp e).1
        have hl2 : i < z.length := by
          have : z.length = s.length := by rw [← hz]; rfl
          rw [this]; omega
        refine ⟨z, i, c, rfl, rfl, hi.1, hi.2, hl2, ?_, h _ ρ H hS .refl ⟨_, rfl, rfl⟩⟩
        rw [← e, ← hz]; simp
      · exact h.elim
    · exact h.elim
  · exact h.elim
inductive HdsM (Γ : Gm) (X : Cx) : List ExceptHandler → List (List String × IS) → Prop
  | nil : HdsM Γ X [] []
  | cons {x : Str} {c : Value} {subs : List String} {ς : IS} {b₀ : Stmt} {suite : List Stmt} {np pos' : Pos} {hds : List ExceptHandler} {l : List (List String × IS)} (hc : Names X x c) (hsub : ∀ k C, Γ.cl k = some C → PySem.W.exmOne X.K C c = some (subs.contains k))
      (hsu : ∀ (a : Addr) (oe : Obj) (pn : List (Addr × Obj)), PSs (X.suite a ((a, oe) :: pn)) (b₀ :: suite) (rdS Γ Z0 ς)) (r : HdsM Γ X hds l) : HdsM Γ X (.ExceptHandler (some (.Name x np)) none (b₀ :: suite) pos' :: hds) ((subs, ς) :: l)
theorem HdsM.go {hds : List ExceptHandler} {l : List (List String × IS)} (h : HdsM Γ X hds l) : ∃ l', HdsOk X hds l' ∧ ∀ (D : Ends) (z : Ex) (e1 : Env) (s1 : Store) (ρ : Pl) (H : Hp), PostS Γ Z D ρ H (handM l z e1 s1) →
    ∀ σ' ρ' H' cls d, RelS Γ ρ' H' s1 → Ext Γ ρ H ρ' H' → RelE Γ ρ' H' e1 σ' → RepX Γ ρ' H' z cls d → wMany X.K Z D l' cls d σ' H' := by
  induction h with
  | nil => exact ⟨[], .nil, fun D z e1 s1 ρ H h => h⟩
  | @cons x c subs ς b₀ suite np pos' hds l hc hsub hsu r ih =>
    obtain ⟨l', ok, ih⟩ := ih
    refine ⟨(c, fun _ _ _ => rdS Γ Z0 ς) :: l', .cons hc (fun a oe _ _ pn _ _ => hsu a oe pn) ok, fun D z e1 s1 ρ H h σ' ρ' H' cls d hS' x' hE' rx => ?_⟩
    refine ⟨_, hsub _ _ rx.1, fun hb a ha => ⟨ρ', e1, s1, hS', hE', ?_⟩, fun hb => ?_⟩
    · simp only [handM] at h
      rw [if_pos hb] at h
      have h := PostS.ext x' h
      cases e2 : ς e1 s1 with
      | exc y e2 s2 => rw [e2] at h; exact h.elim
      | nx e1 s1 => rw [e2] at h; exact h
      | ret w s1 => rw [e2] at h; exact h
      | brk e1 s1 => rw [e2] at h; exact h
      | cnt e1 s1 => rw [e2] at h; exact h
      | stuck => rw [e2] at h; exact h
    · simp only [handM] at h
      rw [if_neg (by rw [hb]; simp)] at h
      exact ih D z e1 s1 ρ H h σ' ρ' H' cls d hS' x' hE' rx
theorem s_tryM {h₀ : ExceptHandler} {hds : List ExceptHandler} {l : List (List String × IS)} (hs : X.stack = X.env :: X.outer) (hf : X.env.frame = some X.env.locals) (tk : Takes X Z)
    (hb : ∀ (W : WX) (pn : List (Addr × Obj)) (xe : Value → Shared → Prop), Takes (X.tr pn xe) W → PassesOwn (model X.prog X.w) X.A X.env xe → PSs (X.tr pn xe) body (rdS Γ W β))
    (hh : HdsM Γ X (h₀ :: hds) l) : PS X (.Try body (h₀ :: hds) [] [] pos) (rdS Γ Z (sTryM β l)) := by
  obtain ⟨l', ok, go⟩ := hh.go (Z := Z)
  refine PS.imp (ps_try_many (tb := fun W => rdS Γ W β) hs hf tk hb ok) ?_
  rintro D σ H ⟨ρ, env, st, hS, hE, h⟩
  refine ⟨ρ, env, st, hS, hE, ?_⟩
  unfold sTryM at h
  cases e : β env st with
  | nx e1 s1 => rw [e] at h; exact h
  | ret w s1 => rw [e] at h; exact h
  | brk e1 s1 => rw [e] at h; exact h
  | cnt e1 s1 => rw [e] at h; exact h
  | stuck => rw [e] at h; exact h
  | exc z e1 s1 =>
    rw [e] at h
    exact go D z e1 s1 ρ H h
end
end M

-- Sound29
set_option Elab.async false
set_option autoImplicit false
set_option linter.all false
set_option maxRecDepth 100000
/-! texts: join; dict displays of one entry -/
namespace M
open Classical
def joinN (a : List Nat) : List (List Nat) → List Nat
  | [] => []
  | [p] => p
  | p :: q :: r => p ++ (a ++ joinN a (q :: r))
noncomputable def mJoin (x : W) (xs : List W) (st : Store) : R W := match x, xs with
  | .str a, [y] => match (seqOf st y).bind strsOf with
    | some ps => if (ps.map List.length).sum + ps.length * a.length ≤ lim then .ok (.str (joinN a ps)) st else .stuck
    | none => .stuck
  | _, _ => .stuck
def dDsp1 (κ α : IE) : ID := fun env st => match κ env st with
  | .ok kw s1 => match α env s1 with
    | .ok w s2 => if keyOk kw = true then .ok (putD [] kw w) s2 else .stuck
    | _ => .stuck
  | _ => .stuck
open PySem L2
theorem joinN_L (a : List Nat) : ∀ ps, joinN a ps = TL.joinL a ps
  | [] => rfl
  | [_] => rfl
  | p :: q :: r => by show p ++ (a ++ joinN a (q :: r)) = p ++ (a ++ TL.joinL a (q :: r)); rw [joinN_L a (q :: r)]
section
variable {Γ : Gm} {Z : WX} {X : Cx} {κ α : IE} {k v : Expr} {pos : Pos}
theorem sem_join : SemM Γ (fun x xs H Q => ∃ a p, ∃ ys : List Str, x = .str a ∧ xs = [.ref p] ∧ (SqL Γ.K H p (ys.map V.str) ∨ SqT Γ.K H p (ys.map V.str)) ∧ (ys.map (·.length)).sum + ys.length * a.length ≤ 16777216 ∧ Q (.str (Txt.join a ys)) H) mJoin := by
  intro Z σ ρ H st x xs xv vs Q hS rx rl h
  unfold mJoin at h
  split at h
  · rename_i a y
    obtain ⟨z, rfl, hz⟩ := rx
    obtain ⟨u, _, rfl, ru, rfl⟩ := rl
    cases e1 : seqOf st y with
    | none => rw [e1] at h; exact h.elim
    | some ws =>
      rw [e1, Option.bind_some] at h
      cases e2 : strsOf ws with
      | none => rw [e2] at h; exact h.elim
      | some ps =>
        rw [e2] at h
        simp only at h
        split at h
        · rename_i hl
          obtain ⟨t, p, us, rfl, hq, rl2, _⟩ := seqOf_rep hS ru e1
          obtain ⟨ys, rfl, rfl⟩ := strs_V rl2 e2
          refine ⟨z, p, ys, rfl, rfl, ?_, ?_, ?_⟩
          · cases t
            · exact .inl hq
            · exact .inr hq
          · have e3 : (List.map List.length (List.map (fun y : Str => y.cps.toList) ys)) = ys.map (·.length) := by
              rw [List.map_map]; rfl
            rw [e3, List.length_map] at hl
            have e4 : a.length = z.length := by rw [← hz]; rfl
            rw [e4] at hl
            exact hl
          · refine h _ ρ H hS .refl ⟨_, rfl, ?_⟩
            show TL.tl (Txt.join z ys) = _
            rw [TL.join_eq, TL.tl_join, joinN_L, ← hz]
        · exact h.elim
  · exact h.elim
theorem d_disp1 (hk : PE X k (rd Γ Z κ)) (hv : PE X v (rd Γ Z α)) : PE X (.Dict [some k] [v] pos) (rdD Γ Z (dDsp1 κ α)) := by
  refine PE.imp (pe_disp (pps_cons hk hv pps_nil) rfl rfl (by simp) (by simp)) ?_
  rintro σ H Q ⟨ρ, env, st, hS, hE, h⟩ D hD
  have np : D ∉ ρ.at_ := fun hm => by
    obtain ⟨o, ho, _⟩ := hS.there hm
    have ho : H D = some o := ho
    rw [hD] at ho; cases ho
  refine ⟨ρ.hold D, env, st, hS.hold hD, hE.ext0 (Ext0.hold hD), ?_⟩
  unfold dDsp1 at h
  cases e1 : κ env st with
  | exc z s => rw [e1] at h; exact h.elim
  | stuck => rw [e1] at h; exact h.elim
  | ok kw s1 =>
    simp only [e1] at h
    intro kv ρ1 H1 hS1 x1 r1
    refine ⟨ρ1, env, s1, hS1, (hE.ext0 (Ext0.hold hD)).ext x1, ?_⟩
    cases e2 : α env s1 with
    | exc z s => rw [e2] at h; exact h.elim
    | stuck => rw [e2] at h; exact h.elim
    | ok w s2 =>
      simp only [e2] at h
      by_cases hz : keyOk kw = true
      · rw [if_pos hz] at h
        intro u ρ2 H2 hS2 x2 r2
        obtain ⟨kk, rfl, rfl⟩ := key_V (r1.ext x2) hz
        have x12 := x1.trans x2
        have hDh : D ∈ (ρ.hold D).off := List.mem_cons_self ..
        have ho2 : ρ2.off = D :: ρ.off := by rw [x12.off]; rfl
        have hDo : D ∈ ρ2.off := by rw [ho2]; exact List.mem_cons_self ..
        have hd2 : H2 D = some (.dK []) := (x12.frm D _ upd_same (.inl ((hS.hold (o := .dK []) hD).offs D hDh).2)).1
        have mk : Ext0 Γ ρ2 H2 ρ2 (upd H2 D (.dK (putK [] kk u))) := Ext0.making hDo hd2 trivial
        have hS3 : RelS Γ ρ2 (upd H2 D (.dK (putK [] kk u))) s2 := hS2.making hDo hd2 trivial
        have ra : DRep Γ ρ2 (upd H2 D (.dK (putK [] kk u))) (putD [] (keyW kk) w) (putK [] kk u) := putD_rep kk (r2.ext0 mk) ⟨rfl, rfl⟩
        refine ⟨hd2, [(kk, u)], rfl, by simp, ?_⟩
        show Q (.ref D) (upd H2 D (.dK (putK [] kk u)))
        refine h D (putK [] kk u) ⟨ρ2.at_, ρ.off, ρ2.fz⟩ _ ⟨hD, upd_same, (hS2.offs D hDo).2, hS.new_no hD, hS3.done ho2, hS3.doneC ho2 (hS.new_no hD) ⟨_, upd_same, ra.1, ra.2⟩, ?_, ra.1, ?_⟩
        · exact ⟨x12.pre, fun a vs q => SqT.upd_mut hd2 trivial (x12.tup a vs (SqT.upd_new hD q)), fun a o q n => by
            have q' : upd H D (.dK []) a = some o := by rw [upd_ne (ne_of_none q hD)]; exact q
            obtain ⟨q1, n1⟩ := x12.frm a o q' n
            exact ⟨by rw [upd_ne (ne_of_none q hD)]; exact q1, n1⟩, rfl⟩
        · exact RepL.cut (ρ := ρ2) (ρ' := ⟨ρ2.at_, ρ.off, ρ2.fz⟩) (n := ρ2.at_.length) (fun _ _ _ q => q) (done_hs ho2) ra.2.bd ra.2
      · rw [if_neg hz] at h; exact h.elim
end
end M

-- Sound30
set_option Elab.async false
set_option autoImplicit false
set_option linter.all false
set_option maxRecDepth 100000
/-! texts: walked, `in`, split, partition, removeprefix, slices, int, f-strings, constants -/
namespace M
open Classical
def itTxt (x : W) (st : Store) : R It := match x with
  | .str s => .ok ⟨s.map fun c => .str [c], fun _ => True⟩ st
  | _ => .stuck
def iTxt (α : IE) : II := fun env st => (α env st).bind itTxt
noncomputable def opInG (neg : Bool) (x y : W) (st : Store) : R W := match x, y with
  | .str [c], .str s => .ok (.bl (if neg then !decide (c ∈ s) else decide (c ∈ s))) st
  | _, _ => .stuck
def splN (S : List Nat) (l : List Nat) : List (List Nat) := TL.spl S 0 [] l
def parN (S : List Nat) (l : List Nat) : List Nat × List Nat × List Nat := match TL.par S [] l with
  | some (a, b) => (a, S, b)
  | none => (l, [], [])
noncomputable def mPartn (x : W) (xs : List W) (st : Store) : R W := match x, xs with
  | .str a, [.str S] => if S ≠ [] ∧ a.length ≤ lim then .ok (.tup [.str (parN S a).1, .str (parN S a).2.1, .str (parN S a).2.2]) st else .stuck
  | _, _ => .stuck
def remP (S a : List Nat) : List Nat := if TL.pre S a = true then a.drop S.length else a
noncomputable def mRemP (x : W) (xs : List W) (st : Store) : R W := match x, xs with
  | .str a, [.str S] => if a.length ≤ lim then .ok (.str (remP S a)) st else .stuck
  | _, _ => .stuck
noncomputable def lSplit (α β : IE) : IL := fun env st => (α env st).bind fun x s1 => match x with
  | .str a => (β env s1).bind fun y s2 => (match y with
    | .str S => if S ≠ [] ∧ S.all (· < 256) = true ∧ a.length + 2 ≤ lim then .ok ((splN S a).map .str) s2 else .stuck
    | _ => .stuck)
  | _ => .stuck
def cutN (s : List Nat) (lo hi : Option Int) : List Nat := (s.drop (sIxN s.length 0 lo)).take (sIxN s.length s.length hi - sIxN s.length 0 lo)
noncomputable def eSlS (e : IE) (lo hi : Option IE) : IE := fun env st => (e env st).bind fun x s1 => (part lo env s1).bind fun l s2 => (part hi env s2).bind fun h s3 => match x with
  | .str s => if s.length ≤ lim then .ok (.str (cutN s l h)) s3 else .stuck
  | _ => .stuck
noncomputable def intN (s : List Nat) : Option Int := PySem.intText? ⟨s.toArray⟩
noncomputable def bIntS (xs : List W) (st : Store) : R W := match xs with
  | [.str s] => if s.length ≤ 640 then (match intN s with
    | some n => .ok (.int n) st
    | none => .stuck) else .stuck
  | _ => .stuck
noncomputable def fmtW (x : W) (st : Store) : R W := match x with
  | .str s => if s.length ≤ lim then .ok (.str s) st else .stuck
  | .int i => if i.natAbs.log2 < 1920 then .ok (.str (decW i)) st else .stuck
  | _ => .stuck
noncomputable def eFmt (α : IE) : IE := fun env st => (α env st).bind fmtW
noncomputable def jGo : List IE → List Nat → Env → Store → R W
  | [], acc, _, st => .ok (.str acc) st
  | t :: ts, acc, env, st => (t env st).bind fun x s => match x with
    | .str y => if (acc ++ y).length ≤ lim then jGo ts (acc ++ y) env s else .stuck
    | _ => .stuck
noncomputable def eJoin (l : List IE) : IE := fun env st => jGo l [] env st
open PySem L2
section
variable {Γ : Gm} {Z : WX} {X : Cx} {α β : IE} {a b e tg : Expr} {pos apos : Pos}
theorem walks_txt (x : Str) (ρ : Pl) (H : Hp) : Walks Γ ⟨x.cps.toList.map fun c => W.str [c], fun _ => True⟩ (Its x) ρ H :=
  ⟨fun i ρ2 H2 s2 h2 x2 g w hw => by
    rw [List.getElem?_map] at hw
    cases e : x.cps.toList[i]? with
    | none => rw [e] at hw; cases hw
    | some c =>
      rw [e] at hw
      cases hw
      have hi := (List.getElem?_eq_some_iff.mp e).1
      refine ⟨show i < x.cps.size by simpa using hi, ?_⟩
      rintro v H3 ⟨rfl, d, ed, rfl⟩
      have : x.cps[i]? = some c := by rw [← e]; simp
      rw [this] at ed; cases ed
      exact ⟨h2, .refl, _, rfl, rfl⟩, fun ρ2 H2 s2 h2 x2 g => by simp [Its]⟩
theorem w_txt (ha : PE X e (rd Γ Z α)) : PI X tg e (rdI Γ Z (iTxt α)) := by
  have h := pi_str (tg := tg) ha
  refine ⟨fun pins s σ H R I q => h.run pins s σ H R I ?_⟩
  obtain ⟨ρ, env, st, hS, hE, q⟩ := q
  refine ⟨ρ, env, st, hS, hE, (Post.bindI q).mono ?_⟩
  rintro v H1 ⟨w, s1, ρ1, e1, hS1, x1, r1, h1⟩
  unfold itTxt at h1
  split at h1
  · obtain ⟨x, rfl, rfl⟩ := r1
    exact ⟨x, rfl, h1 _ ρ1 H1 hS1 .refl (walks_txt x _ _)⟩
  · exact h1.elim
theorem sem_inG : SemOp Γ rInS (opInG false) := by
  intro Z σ ρ H st x y xv yv Q hS rx ry h
  unfold opInG at h
  split at h
  · rename_i c s
    obtain ⟨x, rfl, hx⟩ := rx
    obtain ⟨z, rfl, rfl⟩ := ry
    exact ⟨c, z, by rw [show x = (⟨#[c]⟩ : Str) from TL.ext_tl hx], rfl, h _ ρ H hS .refl rfl⟩
  · exact h.elim
theorem sem_ninG : SemOp Γ rNotInS (opInG true) := by
  intro Z σ ρ H st x y xv yv Q hS rx ry h
  unfold opInG at h
  split at h
  · rename_i c s
    obtain ⟨x, rfl, hx⟩ := rx
    obtain ⟨z, rfl, rfl⟩ := ry
    exact ⟨c, z, by rw [show x = (⟨#[c]⟩ : Str) from TL.ext_tl hx], rfl, h _ ρ H hS .refl rfl⟩
  · exact h.elim
theorem sem_partn : SemM Γ (fun x xs H Q => ∃ a b, x = .str a ∧ xs = [.str b] ∧ (b.length == 0) = false ∧ a.length ≤ sizeLine ∧
      ∀ p, H p = none → Q (.ref p) (upd H p (.tup [.str (Txt.partition a b).1, .str (Txt.partition a b).2.1, .str (Txt.partition a b).2.2]))) mPartn := by
  intro Z σ ρ H st x xs xv vs Q hS rx rl h
  unfold mPartn at h
  split at h
  · rename_i a S
    obtain ⟨z, rfl, hz⟩ := rx
    obtain ⟨u, _, rfl, ⟨y, rfl, hy⟩, rfl⟩ := rl
    subst hz; subst hy
    split at h
    · rename_i hc
      refine ⟨z, y, rfl, rfl, ?_, ?_, fun p hp => ?_⟩
      · have := TL.len1 hc.1
        simp; omega
      · have := hc.2; rw [← TL.len_tl] at this; exact this
      · refine h (.ref p) ρ _ (hS.free hp) (.free hp) ⟨p, _, rfl, .of upd_same, ?_⟩
        have hpp := TL.partition_par z y hc.1
        refine .cons ⟨_, rfl, ?_⟩ (.cons ⟨_, rfl, ?_⟩ (.one ⟨_, rfl, ?_⟩))
        all_goals
          unfold parN
          rw [hpp]
          cases TL.par (TL.tl y) [] (TL.tl z) <;> rfl
    · exact h.elim
  · exact h.elim
theorem sem_remP : SemM Γ (fun x xs H Q => ∃ a b, x = .str a ∧ xs = [.str b] ∧ a.length ≤ sizeLine ∧ Q (.str (Txt.removeprefix a b)) H) mRemP := by
  intro Z σ ρ H st x xs xv vs Q hS rx rl h
  unfold mRemP at h
  split at h
  · rename_i a S
    obtain ⟨z, rfl, hz⟩ := rx
    obtain ⟨u, _, rfl, ⟨y, rfl, hy⟩, rfl⟩ := rl
    subst hz; subst hy
    split at h
    · rename_i hc
      refine ⟨z, y, rfl, rfl, by rw [← TL.len_tl] at hc; exact hc, h _ ρ H hS .refl ⟨_, rfl, ?_⟩⟩
      rw [PySem.StrLaws.removeprefix_eq, PySem.StrLaws.subAt_eq]
      unfold remP TL.pre
      simp only [List.drop_zero]
      by_cases q : (TL.tl z).take (TL.tl y).length = TL.tl y
      · have hl : y.length ≤ z.length := by
          rw [TL.len_tl, TL.len_tl]
          have := congrArg List.length q
          rw [List.length_take] at this
          omega
        have q' : (z.cps.toList.take y.length == y.cps.toList) = true := by rw [TL.len_tl]; simpa using q
        rw [q', if_pos (by simp; exact hl), if_pos (by simpa using q)]
        show (z.cps.toList.drop y.length).take (z.length - y.length) = _
        rw [TL.len_tl y, TL.len_tl z]
        exact List.take_of_length_le (by rw [List.length_drop]; exact Nat.le_refl _)
      · have q' : (z.cps.toList.take y.length == y.cps.toList) = false := by rw [TL.len_tl]; simpa using q
        rw [q', if_neg (by simp), if_neg (by simpa using q)]
    · exact h.elim
  · exact h.elim
theorem l_split (ha : PE X a (rd Γ Z α)) (hb : PE X b (rd Γ Z β)) (hs : starEach [b] X.env = [(false, eval b X.env)] := by rfl) (hbase : attributeBase a "split" X.env (eval a X.env) = eval a X.env := by rfl) (hline : (apos.endLine == pos.line) = true := by rfl) :
    PE X (.Call (.Attribute a "split" apos) [b] [] pos) (rdL Γ Z (lSplit α β)) := by
  refine PE.imp (pe_split ha hb hs hbase hline) ?_
  rintro σ H Q ⟨ρ, env, st, hS, hE, hp⟩
  refine ⟨ρ, env, st, hS, hE, (Post.bindL hS hp).mono ?_⟩
  rintro v H1 ⟨w, s1, ρ1, e1, hS1, x1, r1, h1⟩
  cases w with
  | str s =>
    obtain ⟨z, rfl, hz⟩ := r1
    refine ⟨⟨z, rfl⟩, ρ1, env, s1, hS1, hE.ext x1, (Post.bindL hS1 h1).mono ?_⟩
    rintro u H2 ⟨w2, s2, ρ2, e2, hS2, x2, r2, h2⟩
    cases w2 with
    | str S =>
      obtain ⟨y, rfl, hy⟩ := r2
      subst hz; subst hy
      simp only at h2
      split at h2
      · rename_i hc
        refine ⟨z, y, rfl, rfl, ?_, ?_, fun p hp => ?_⟩
        · have := TL.len1 hc.1
          simp; omega
        · have := hc.2.2; rw [← TL.len_tl] at this; exact this
        · refine h2 p _ ρ2 _ (Fresh.of hS2 hp ?_)
          have hk := TL.split_spl z y hc.1 (TL.kind_ok (by simpa using hc.2.1))
          unfold splN
          rw [show TL.spl y.cps.toList 0 [] z.cps.toList = (Txt.split z y).map TL.tl from hk.symm, List.map_map]
          generalize Txt.split z y = L
          induction L with
          | nil => exact .nil
          | cons q r ih => exact .cons ⟨q, rfl, rfl⟩ ih
      · exact h2.elim
    | _ => exact h2.elim
  | _ => exact h1.elim
theorem cutN_eq (z : Str) (lo hi : Option Int) : TL.tl (cutS z lo hi) = cutN (TL.tl z) lo hi := rfl
theorem i_slS {lo hi : Option Expr} {l h : Option IE} {p2 : Pos} (he : PE X e (rd Γ Z α)) (hl : PO X lo (rdP Γ Z (part l))) (hh : PO X hi (rdP Γ Z (part h))) : PE X (.Subscript e (.Slice lo hi none p2) pos) (rd Γ Z (eSlS α l h)) := by
  refine PE.imp (pe_slice sl_str he hl hh) ?_
  rintro σ H Q ⟨ρ, env, st, hS, hE, hp⟩
  refine ⟨ρ, env, st, hS, hE, (Post.bind hp).mono ?_⟩
  rintro v H1 ⟨w, s1, ρ1, e1, hS1, x1, r1, h1⟩
  refine ⟨ρ1, env, s1, hS1, hE.ext x1, (Post.bind h1).mono ?_⟩
  rintro i H2 ⟨i', s2, ρ2, e2, hS2, x2, rfl, h2⟩
  refine ⟨ρ2, env, s2, hS2, (hE.ext x1).ext x2, (Post.bind h2).mono ?_⟩
  rintro j H3 ⟨j', s3, ρ3, e3, hS3, x3, rfl, h3⟩
  have r3 := (r1.ext x2).ext x3
  cases w with
  | str s =>
    obtain ⟨z, rfl, rfl⟩ := r3
    simp only at h3
    split at h3
    · rename_i hc
      exact ⟨z, rfl, by rw [TL.len_tl]; exact hc, h3 _ ρ3 H3 hS3 .refl ⟨_, rfl, rfl⟩⟩
    · exact h3.elim
  | _ => exact h3.elim
theorem sem_intS : SemC Γ (fun xs H Q => ∃ a n, xs = [.str a] ∧ PySem.intText? a = some n ∧ a.length ≤ 640 ∧ Q (.int n) H) bIntS := by
  intro Z σ ρ H st xs vs Q hS rl h
  unfold bIntS at h
  split at h
  · rename_i s
    obtain ⟨u, _, rfl, ⟨y, rfl, rfl⟩, rfl⟩ := rl
    split at h
    · rename_i hl
      split at h
      · rename_i n hn
        exact ⟨y, n, rfl, by unfold intN at hn; rwa [show (⟨y.cps.toList.toArray⟩ : Str) = y from TL.mk_tl y] at hn, by rw [TL.len_tl]; exact hl, h _ ρ H hS .refl rfl⟩
      · exact h.elim
    · exact h.elim
  · exact h.elim
theorem i_fmt (he : PE X e (rd Γ Z α)) : PE X (.FormattedValue e (-1) none pos) (rd Γ Z (eFmt α)) := by
  refine PE.imp (pe_fmt he) ?_
  rintro σ H Q ⟨ρ, env, st, hS, hE, hp⟩
  refine ⟨ρ, env, st, hS, hE, (Post.bind hp).mono ?_⟩
  rintro v H1 ⟨w, s1, ρ1, e1, hS1, x1, r1, h1⟩
  unfold fmtW at h1
  split at h1
  · rename_i s
    obtain ⟨y, rfl, rfl⟩ := r1
    split at h1
    · rename_i hl
      exact .inl ⟨y, rfl, by rw [TL.len_tl]; exact hl, h1 _ ρ1 H1 hS1 .refl ⟨_, rfl, rfl⟩⟩
    · exact h1.elim
  · cases r1
    split at h1
    · rename_i hl
      exact .inr ⟨_, rfl, hl, h1 _ ρ1 H1 hS1 .refl ⟨_, rfl, ofS _⟩⟩
    · exact h1.elim
  · exact h1.elim
inductive PJW (Γ : Gm) (Z : WX) (X : Cx) : List Expr → List IE → Prop where
  | nil : PJW Γ Z X [] []
  | cons {e : Expr} {t : IE} {es : List Expr} {ts : List IE} (h : PE X e (rd Γ Z t)) (r : PJW Γ Z X es ts) : PJW Γ Z X (e :: es) (t :: ts)
theorem PJW.pj {es : List Expr} {ts : List IE} (h : PJW Γ Z X es ts) : PJ X es (ts.map (rd Γ Z)) := by
  induction h with
  | nil => exact .nil
  | cons h r ih => exact .cons h ih
theorem jGo_tJs {σ : L2.St} {Q : VK} : ∀ (ts : List IE) (acc : Str) (ρ : Pl) (H : Hp) (env : Env) (st : Store), RelS Γ ρ H st → RelE Γ ρ H env σ → Post Γ (RepV Γ) Z σ ρ H Q (jGo ts acc.cps.toList env st) →
    tJs (ts.map (rd Γ Z)) acc σ H fun out H1 => Q (.str out) H1
  | [], acc, ρ, H, env, st, hS, hE, h => h _ ρ H hS .refl ⟨_, rfl, rfl⟩
  | t :: ts, acc, ρ, H, env, st, hS, hE, h => by
    unfold jGo at h
    refine ⟨ρ, env, st, hS, hE, (Post.bind h).mono ?_⟩
    rintro v H1 ⟨w, s1, ρ1, e1, hS1, x1, r1, h1⟩
    cases w with
    | str y =>
      obtain ⟨z, rfl, rfl⟩ := r1
      simp only at h1
      split at h1
      · rename_i hl
        have ea : (acc ++ z).cps.toList = acc.cps.toList ++ z.cps.toList := TL.tl_append acc z
        refine ⟨z, rfl, ?_, jGo_tJs ts (acc ++ z) ρ1 H1 env s1 hS1 (hE.ext x1) (by rw [ea]; exact h1)⟩
        rw [TL.len_tl]
        show ((acc ++ z).cps.toList).length ≤ _
        rw [ea]; exact hl
      · exact h1.elim
    | _ => exact h1.elim
theorem i_join {v1 v2 : Expr} {rest : List Expr} {ts : List IE} (h : PJW Γ Z X (v1 :: v2 :: rest) ts) : PE X (.JoinedStr (v1 :: v2 :: rest) pos) (rd Γ Z (eJoin ts)) := by
  refine PE.imp (pe_joined h.pj) ?_
  rintro σ H Q ⟨ρ, env, st, hS, hE, hp⟩
  exact jGo_tJs ts Str.empty ρ H env st hS hE hp
theorem i_join1 (he : PE X e (rd Γ Z α)) : PE X (.JoinedStr [e] pos) (rd Γ Z α) := pe_joined1 he
theorem i_gstr {x s : Str} {u : Value} {l : List Nat} (hm : X.mg x = some u) (hu : ∃ t, u = .str s t) (hl : s.cps.toList = l := by rfl) (hg : Gl X x := by rfl) (hd : (x == ("__debug__" : Str)) = false := by decide) : PE X (.Name x pos) (rd Γ Z (eC (.str l))) :=
  PE.imp (pe_glob (v := V.str s) hg hm hu hd) fun _ _ _ h => rd_c (w := .str l) (v := .str s) (fun _ _ => ⟨s, rfl, hl⟩) h
end
end M

-- Sound31
set_option Elab.async false
set_option autoImplicit false
set_option linter.all false
set_option maxRecDepth 100000
/-! constants of a module that are tuples of texts -/
namespace M
open PySem L2
def strVals : List Value → Option (List (List Nat))
  | [] => some []
  | .str x _ :: r => (strVals r).map (x.cps.toList :: ·)
  | _ :: _ => none
theorem strVals_len : ∀ {us : List Value} {l : List (List Nat)}, strVals us = some l → us.length = l.length
  | [], _, e => by cases e; rfl
  | u :: us, l, e => by
    cases u with
    | str x t =>
      simp only [strVals] at e
      cases e1 : strVals us with
      | none => rw [e1] at e; cases e
      | some q => rw [e1] at e; cases e; simp [strVals_len e1]
    | _ => cases e
theorem strVals_rep {Γ : Gm} {ρ : Pl} {H : Hp} : ∀ {us : List Value} {l : List (List Nat)}, strVals us = some l → ∃ vs : List V, Vals vs us ∧ ∀ ρ H, RepL Γ ρ H (l.map W.str) vs
  | [], _, e => by cases e; exact ⟨[], .nil, fun _ _ => .nil⟩
  | u :: us, l, e => by
    cases u with
    | str x t =>
      simp only [strVals] at e
      cases e1 : strVals us with
      | none => rw [e1] at e; cases e
      | some q =>
        rw [e1] at e; cases e
        obtain ⟨vs, h1, h2⟩ := strVals_rep (Γ := Γ) (ρ := ρ) (H := H) e1
        exact ⟨.str x :: vs, .cons ⟨t, rfl⟩ h1, fun ρ H => .cons ⟨x, rfl, rfl⟩ (h2 ρ H)⟩
    | _ => cases e
def GTup (K : PySem.W.Frag) (u : Value) (l : List (List Nat)) : Prop := ∃ (a : Addr) (o : Obj) (its : Array Value) (n : Nat), u = .ref a ∧ K.lookup a = some o ∧ o.cls = .type "tuple" ∧ o.data = .seq its n ∧ its.size ≤ sizeLine ∧ strVals its.toList = some l
theorem GTup.of {K : PySem.W.Frag} {a : Addr} {d : Option Addr} {its : Array Value} {n : Nat} {sl : Array (Option Value)} {l : List (List Nat)} (h : K.lookup a = some ⟨.type "tuple", d, .seq its n, sl⟩) (hv : strVals its.toList = some l) (hl : l.length ≤ 1000 := by decide) : GTup K (.ref a) l := by
  refine ⟨a, _, its, n, rfl, h, rfl, rfl, ?_, hv⟩
  have := strVals_len hv
  rw [Array.length_toList] at this
  unfold sizeLine
  omega
section
variable {Γ : Gm} {Z : WX} {X : Cx} {pos : Pos}
theorem i_gtup {x : Str} {u : Value} {l : List (List Nat)} {ws : List W} (hm : X.mg x = some u) (hu : GTup Γ.K u l) (hw : l.map W.str = ws := by rfl) (hg : Gl X x := by rfl) (hd : (x == ("__debug__" : Str)) = false := by decide) : PE X (.Name x pos) (rd Γ Z (eC (.tup ws))) := by
  obtain ⟨a, o, its, n, rfl, ho, hc, hda, hs, hv⟩ := hu
  obtain ⟨vs, h1, h2⟩ := strVals_rep (Γ := Γ) (ρ := ⟨[], [], []⟩) (H := fun _ => none) hv
  subst hw
  exact PE.imp (pe_glob (v := V.ref a) hg hm rfl hd) fun _ _ _ h => rd_c (w := .tup (l.map W.str)) (v := .ref a) (fun ρ H => ⟨a, vs, rfl, .inr ⟨o, its, n, ho, hc, hda, hs, h1⟩, h2 ρ H⟩) h
end
end M

-- Sound32
set_option Elab.async false
set_option autoImplicit false
set_option linter.all false
set_option maxRecDepth 100000
/-! isinstance(e, (C, D)), e the exception that the suite holds -/
namespace M
theorem kit2 {K : PySem.W.Frag} {t u v : PySem.Value} {a b : Bool} (h1 : PySem.W.kitOne K t u = some a) (h2 : PySem.W.kitOne K t v = some b) : PySem.W.kitAny K t [u, v] = some (a || b) := by
  unfold PySem.W.kitAny
  rw [h1]
  cases a with
  | true => rfl
  | false =>
    unfold PySem.W.kitAny
    simp only [h2]
    cases b <;> rfl
open PySem PySem.Spec PyProof.Rows L2 in
theorem call_isXT {X : Cx} {a D : Addr} {oe : Obj} {d : Option Addr} {pn : List (Addr × Obj)} (C : ExcC X.K D) (hz : Zc (.ref D) d oe) (hf : ∃ vs, oe.data = .fields vs) (hd : ∀ (pins : List (Addr × Obj)) (s : Shared) (σ : L2.St) (H : Hp) dd, Inv (X.suite a ((a, oe) :: pn)) pins σ H s → d = some dd → (∃ fs, H dd = some (.xd fs)) → ∃ od, s.heap.get? dd = some od) :
    CallR (X.suite a ((a, oe) :: pn)) (.builtin "isinstance") (fun xs H Q => ∃ (tp : Addr) (cs : List V) (us : List Value) (b : Bool), xs = [.ref a, .ref tp] ∧ H tp = some (.tup cs) ∧ Paired ClsV cs us ∧ (∀ dd, d = some dd → ∃ fs, H dd = some (.xd fs)) ∧ PySem.W.kitAny X.K (.ref D) us = some b ∧ Q (.bl b) H) := by
  intro pins s σ H xs us Q I r h
  obtain ⟨tp, cs, ws, b, rfl, hT, k, hx, e, q⟩ := h
  cases r with
  | cons rx rr =>
    cases rr with
    | cons rt rr =>
      cases rr
      cases rx
      cases rt
      obtain ⟨_, its, rv, o, h1, h2, n, h3⟩ := (show ObjOk _ _ H s.heap tp (.tup cs) from I.hok tp _ hT)
      have e3 := ClsV.all k rv
      subst e3
      obtain ⟨oc, od, dt, sl⟩ := o
      simp only at h2 h3
      subst h2 h3
      obtain ⟨hget, _⟩ := I.pin (a, oe) (List.mem_append.mpr (.inl List.mem_cons_self))
      obtain ⟨vs, hv⟩ := hf
      have notc : PySem.W.notCls oe = true := by unfold PySem.W.notCls; rw [hv]
      cases d with
      | none =>
        have J : PySem.W.InstAt s.heap a oe D none := ⟨hget, hz.1, notc, by rw [hz.2]; trivial⟩
        exact PySem.W.kia_tup (exc_kit C) I.kIn J h1 e (fun z => nomatch z) fun tk => ⟨.bl b, H, I.kept (t' := tk) fun _ _ z => z, rfl, q⟩
      | some dd =>
        obtain ⟨od, ho⟩ := hd pins s σ H dd I rfl (hx dd rfl)
        have J : PySem.W.InstAt s.heap a oe D (some od) := ⟨hget, hz.1, notc, by rw [hz.2]; exact ho⟩
        exact PySem.W.kia_tup (exc_kit C) I.kIn J h1 e (fun z => nomatch z) fun tk => ⟨.bl b, H, I.kept (t' := tk) fun _ _ z => z, rfl, q⟩
open PySem L2
open Classical
section
variable {Γ : Gm} {X : Cx} {α : IE} {pos : Pos}
theorem i_isET {a : Addr} {oe : Obj} {d : Option Addr} {pn : List (Addr × Obj)} {k : String} {C D1 D2 : Addr} {e : Expr} {y t1 t2 : Str} {p p1 p2 pt : Pos} {cx} {s1 s2 : List String} (E : ExcC X.K C) (hz : Zc (.ref C) d oe) (hf : ∃ vs, oe.data = .fields vs)
    (g1 : X.mg t1 = some (.ref D1)) (k1 : PySem.W.kitOne X.K (.ref C) (.ref D1) = some (s1.contains k)) (g2 : X.mg t2 = some (.ref D2)) (k2 : PySem.W.kitOne X.K (.ref C) (.ref D2) = some (s2.contains k))
    (hm : X.mg y = none) (ha : PE (X.suite a ((a, oe) :: pn)) e (rd Γ Z0 α)) (hy : y = "isinstance" := by rfl) (hg1 : Gl X t1 := by rfl) (hd1 : (t1 == ("__debug__" : Str)) = false := by decide) (hg2 : Gl X t2 := by rfl) (hd2 : (t2 == ("__debug__" : Str)) = false := by decide)
    (hv : bootBuiltins y = some (.builtin "isinstance") := by decide +kernel) (hg : Gl X y := by rfl) (hn : y ≠ "__name__" := by decide) (hdb : (y == ("__debug__" : Str)) = false := by decide)
    (hs : starEach [e, .Tuple [.Name t1 p1, .Name t2 p2] cx pt] X.env = (false, eval e X.env) :: starEach [.Tuple [.Name t1 p1, .Name t2 p2] cx pt] X.env := by rfl) (hs2 : starEach [.Tuple [.Name t1 p1, .Name t2 p2] cx pt] X.env = (false, eval (.Tuple [.Name t1 p1, .Name t2 p2] cx pt) X.env) :: starEach [] X.env := by rfl)
    (hpl : (backTo pos (starEach [.Tuple [.Name t1 p1, .Name t2 p2] cx pt] X.env)).any (·.1) = false := by rfl)
    (ht1 : starEach [.Name t1 p1, .Name t2 p2] X.env = (false, eval (.Name t1 p1) X.env) :: starEach [.Name t2 p2] X.env := by rfl) (ht2 : starEach [.Name t2 p2] X.env = (false, eval (.Name t2 p2) X.env) :: starEach [] X.env := by rfl) :
    PE (X.suite a ((a, oe) :: pn)) (.Call (.Name y p) [e, .Tuple [.Name t1 p1, .Name t2 p2] cx pt] [] pos) (rd Γ Z0 (eIsE a d k (s1 ++ s2) α)) := by
  refine PE.imp (pe_callB (call_isXT E hz hf (fun pins s σ H dd I _ ⟨fs, hx⟩ => by
    obtain ⟨mA, ⟨od, es, ep, ho, _⟩, _⟩ := I.hok dd _ hx
    exact ⟨od, ho⟩)) hg hm hv (pa_cons ha (pa_cons (pe_tup (pa_cons (pe_glob (v := .ref D1) hg1 g1 rfl hd1) (pa_cons (pe_glob (v := .ref D2) hg2 g2 rfl hd2) pa_nil ht2) ht1)) pa_nil hs2) hs) hn hdb hs hpl) ?_
  rintro σ H Q ⟨ρ, env, st, hS, hE, hp⟩
  refine ⟨ρ, env, st, hS, hE, (Post.bind hp).mono ?_⟩
  rintro v H1 ⟨w, s1', ρ1, e1, hS1, x1, r1, h1⟩
  cases w with
  | exv a' c' f' ws' =>
    simp only at h1
    split at h1
    · rename_i hh
      obtain ⟨rfl, rfl, rfl⟩ := hh
      obtain ⟨rfl, r2⟩ := r1
      refine ⟨(by show 2 ≤ sizeLine; unfold sizeLine; omega), fun q hq => ⟨q, [.ref D1, .ref D2], [.ref D1, .ref D2], _, rfl, upd_same, .cons (.own D1) (.cons (.own D2) .nil), fun dd hd => ?_, kit2 k1 k2, ?_⟩⟩
      · cases f' with
        | none => cases hd
        | some z =>
          obtain ⟨d', ns⟩ := z
          cases hd
          obtain ⟨gs, hv, _⟩ := r2
          exact ⟨gs, by rw [upd_ne (ne_of_none hv.1 hq)]; exact hv.1⟩
      · have := h1 (.bl ((s1 ++ s2).contains c')) ρ1 (upd H1 q (.tup [.ref D1, .ref D2])) (hS1.free hq) (.free hq) rfl
        simpa using this
    · exact h1.elim
  | _ => exact h1.elim
end
end M

-- SetI
set_option Elab.async false
set_option autoImplicit false
set_option linter.all false
set_option maxRecDepth 100000
/-! sorted(set(xs)), xs a list of ints -/
namespace M
def insU (i : Int) : List Int → List Int
  | [] => [i]
  | j :: r => if i < j then i :: j :: r else if i = j then j :: r else j :: insU i r
def uSort : List Int → List Int
  | [] => []
  | i :: r => insU i (uSort r)
theorem insU_mem (i k : Int) : ∀ l, k ∈ insU i l ↔ k = i ∨ k ∈ l
  | [] => by simp [insU]
  | j :: r => by
    unfold insU
    split
    · simp
    · split
      · rename_i h; subst h; simp
      · simp only [List.mem_cons, insU_mem i k r]
        constructor
        · rintro (h | h | h)
          · exact .inr (.inl h)
          · exact .inl h
          · exact .inr (.inr h)
        · rintro (h | h | h)
          · exact .inr (.inl h)
          · exact .inl h
          · exact .inr (.inr h)
theorem uSort_mem (k : Int) : ∀ l, k ∈ uSort l ↔ k ∈ l
  | [] => by simp [uSort]
  | i :: r => by simp [uSort, insU_mem, uSort_mem k r]
theorem insU_lt (i : Int) : ∀ {l : List Int}, l.Pairwise (· < ·) → (insU i l).Pairwise (· < ·)
  | [], _ => by simp [insU]
  | j :: r, h => by
    obtain ⟨h1, h2⟩ := List.pairwise_cons.1 h
    unfold insU
    split
    · rename_i hij
      refine List.pairwise_cons.2 ⟨fun k hk => ?_, h⟩
      rcases List.mem_cons.1 hk with rfl | hk
      · exact hij
      · have := h1 k hk; omega
    · split
      · exact h
      · rename_i h3 h4
        refine List.pairwise_cons.2 ⟨fun k hk => ?_, insU_lt i h2⟩
        rcases (insU_mem i k r).1 hk with rfl | hk
        · omega
        · exact h1 k hk
theorem uSort_lt : ∀ l : List Int, (uSort l).Pairwise (· < ·)
  | [] => .nil
  | i :: r => insU_lt i (uSort_lt r)
theorem lt_uniq : ∀ {l m : List Int}, l.Pairwise (· < ·) → m.Pairwise (· < ·) → (∀ k, k ∈ l ↔ k ∈ m) → l = m
  | [], [], _, _, _ => rfl
  | [], j :: m, _, _, h => absurd ((h j).2 (by simp)) (by simp)
  | i :: l, [], _, _, h => absurd ((h i).1 (by simp)) (by simp)
  | i :: l, j :: m, hl, hm, h => by
    obtain ⟨l1, l2⟩ := List.pairwise_cons.1 hl
    obtain ⟨m1, m2⟩ := List.pairwise_cons.1 hm
    have e : i = j := by
      have a := (h i).1 (by simp)
      have b := (h j).2 (by simp)
      rcases List.mem_cons.1 a with a | a
      · exact a
      · rcases List.mem_cons.1 b with b | b
        · exact b.symm
        · have := m1 i a; have := l1 j b; omega
    subst e
    have : l = m := lt_uniq l2 m2 fun k => by
      have hk := h k
      simp only [List.mem_cons] at hk
      constructor
      · intro hm
        rcases hk.1 (.inr hm) with e | e
        · have := l1 k hm; omega
        · exact e
      · intro hm
        rcases hk.2 (.inr hm) with e | e
        · have := m1 k hm; omega
        · exact e
    rw [this]
def lSortU (a : IE) : IL := fun env st => (a env st).bind fun x s => match (lstOf s x).bind intsOf with
  | some ns => if ns.length < 64 then .ok ((uSort ns).map .int) s else .stuck
  | none => .stuck
open PySem PySem.Spec PyProof.Rows SS
section
variable {prog : Program} {w : World} {A : Around} {E : Value → Shared → Prop} {s : Shared}
set_option maxHeartbeats 3200000 in
/-- set(xs), xs a list of ints -/
theorem call_setI {l : Addr} {items : Array Value} {ns : List Int} {Q : Value → Shared → Prop}
    (hh : A.handled = none) (hl : s.heap.IsList l items) (hi : IntsAre items.toList ns) (hn : ns.length + 1 < scanBound)
    (h : ∀ (h' : Heap) (tk c : Nat), L2.SetR w h' s.heap.objs.size (fun j => decide (j ∈ ns)) c → c ≤ ns.length →
      (∀ b o, s.heap.get? b = some o → h'.get? b = some o) → Q (.ref s.heap.objs.size) { s with heap := h', toks := tk }) :
    wpAny (model prog w) A (call (.type "set") [.ref l]) Q E s := by
  obtain ⟨c, tl, hmro⟩ := PySem.F.called_set.mro
  have hmade := PySem.F.called_set.made
  have hsub := PySem.F.called_set.sub
  refine wpAny_call (codeAny_of_tree ?_)
  show wpAny _ _ (callAny (.type "set") _) _ _ _
  refine wpAny_pure ⟨Code.quiet_builtin _ (by decide +kernel), codeAny_builtin PySem.F.entry_type_call ?_⟩
  rw [Around.under_plain (weight_type_call_type "set" [.ref l] []) rfl]
  have h1 := PySem.F.called_set.notType
  have h2 := PySem.F.called_set.canCreate
  have hct := PySem.F.typeCall_set_1 (.ref l)
  repeat (any_goals (first | assumption | wp_step))
  refine codeAny_mono (L2.code_set_led1 (.ref l) (E := E) (Q₁ := fun obj s₁ => obj = .ref s.heap.objs.size ∧ s₁ = { s with heap := s.heap.push { cls := .type "set", dict := none, data := .set #[] 0 (.fresh 0 0 (!w.params.followText "set-order")) } }) ⟨rfl, rfl⟩) fun r s₁ hr => ?_
  cases r with
  | error e => exact hr
  | ok fl =>
  cases fl with
  | ret obj =>
    obtain ⟨rfl, rfl⟩ := hr
    generalize hob : ({ cls := .type "set", dict := none, data := .set #[] 0 (.fresh 0 0 (!w.params.followText "set-order")) } : Obj) = ob
    have hg0 : (s.heap.push ob).get? s.heap.objs.size = some ob := Heap.get?_push_size _ (by rw [← hob]; rfl)
    have ty : Shared.TypeIs { s with heap := s.heap.push ob } (.ref s.heap.objs.size) "set" := ⟨_, hg0, by rw [← hob]⟩
    have hli := PySem.F.called_set.init.lookup
    have hbi := PySem.F.called_set.init.bind (.ref s.heap.objs.size)
    repeat (any_goals (first | assumption | wp_step))
    refine codeAny_mono (codeAny_call_builtin (R := wants (fun r s₂ => r = .none ∧ ∃ h' tk c, s₂ = { s with heap := h', toks := tk } ∧ L2.SetR w h' s.heap.objs.size (fun j => decide (j ∈ ns)) c ∧ c ≤ ns.length ∧
        (∀ b o, s.heap.get? b = some o → h'.get? b = some o)) E) PySem.F.called_set.init.plain PySem.F.entry_set_init (check_set_init_1 ty ?_)) fun r₂ s₂ hr₂ => ?_
    · obtain ⟨⟨_, od, _, os⟩, hol, hcl, nl, hdl⟩ := hl
      simp only at hcl hdl
      subst hcl hdl
      have q1 := PySem.F.sub_list_set
      have q2 := PySem.F.sub_list_frozenset
      have q3 : (Value.type "list" == Value.type "dict") = false := by decide
      have hol' := Heap.get?_push_of_some ob hol
      have hl1 : (s.heap.push ob).IsList l items := ⟨_, hol', rfl, nl, rfl⟩
      have hlS : l < s.heap.objs.size := Heap.lt_size hol
      have hsz1 : (s.heap.push ob).objs.size = s.heap.objs.size + 1 := Heap.size_push _ _
      have hh3 : A.in1.in1.in1.handled = none := by simp [hh]
      have hneI : l ≠ (s.heap.push ob).objs.size := by rw [hsz1]; exact Nat.ne_of_lt (Nat.lt_succ_of_lt hlS)
      have hSf : s.heap.objs.size ∉ [(s.heap.push ob).objs.size, l] := by
        simp only [List.mem_cons, List.not_mem_nil, or_false, not_or]
        exact ⟨by rw [hsz1]; exact Nat.ne_of_lt (Nat.lt_succ_self _), Nat.ne_of_gt hlS⟩
      have hsz : items.size = ns.length := by
        have q := IntsAre.length hi
        rw [Array.length_toList] at q
        exact q
      have hval : ∀ (i : Nat) (v : Value), items[i]? = some v → ∃ k t, ns[i]? = some k ∧ v = .int k t := fun i v hv => by
        have hlt : i < ns.length := by rw [← hsz]; exact (Array.getElem?_eq_some_iff.mp hv).1
        obtain ⟨t, e⟩ := PyProof.Rows.IntsAre.int_at hi i v (by rw [Array.getElem?_toList]; exact hv)
        refine ⟨ns[i], t, List.getElem?_eq_getElem hlt, ?_⟩
        rw [e, List.getD_eq_getElem?_getD, List.getElem?_eq_getElem hlt] <;> rfl
      subst hob
      unfold Builtin.«set.__init__» noKeywords Builtin.Frozenset.updateFrom
      generalize hPI : pyIter = PI
      wp_walk
      subst hPI
      refine wpAny_pyIter_list hl1 ?_
      refine wpAny_bind (wpAny_runValue ?_)
      refine L2.set_update_ints ((Walks.list hh3 _ l hneI items).toS) s.heap.objs.size hSf ns hsz hn hval (items.size - 0) 0 _ (by omega) (Nat.zero_le _)
        ⟨⟨_, Heap.get?_push_size _ rfl, rfl, rfl⟩, (hl1.push _)⟩ ?hS0 ?hR
      case hS0 =>
        have hget := Heap.get?_push_of_some { cls := .type "list_iterator", data := .fields #[.ref l, .int 0 0] } hg0
        exact ⟨0, Nat.le_refl 0, L2.setR_new_at hget⟩
      case hR =>
        intro s' c' hm hc' hS'
        obtain ⟨h', g', d', tk', os'⟩ := s'
        obtain rfl : g' = s.gens := hm.gens
        obtain rfl : d' = s.drawn := hm.drawn
        obtain rfl : os' = s.os := hm.os
        show wpAny _ _ _ _ _ _
        refine wpAny_pure ?_
        show wpAny _ _ (ret Value.none) _ _ _
        rw [hsz] at hc'
        refine wpAny_pure ⟨rfl, h', tk', c', rfl, hS', hc', fun b o e => ?_⟩
        have hb : b < s.heap.objs.size := Heap.lt_size e
        refine hm.heap b o ?_ (Heap.get?_push_of_some _ (Heap.get?_push_of_some _ e))
        simp only [List.mem_cons, List.not_mem_nil, or_false, not_or]
        exact ⟨Nat.ne_of_lt hb, by rw [Heap.size_push]; exact Nat.ne_of_lt (Nat.lt_succ_of_lt hb)⟩
    · cases r₂ with
      | error e => exact hr₂
      | ok fl₂ =>
      cases fl₂ with
      | ret r =>
        obtain ⟨rfl, h', tk, c', rfl, hS', hc', hk'⟩ := hr₂
        repeat (any_goals (first | assumption | wp_step))
        exact h _ _ _ hS' hc' hk'
      | _ => exact hr₂.elim
  | _ => exact hr.elim
end
open L2
section
variable {Γ : Gm} {Z : WX} {X : Cx} {α : IE}
def tSortU (K : PySem.W.Frag) (ta : TE) : TE := fun σ H Q => ta σ H fun x H1 => ∃ (l : Addr) (ns : List Int), x = .ref l ∧ SqL K H1 l (ns.map V.int) ∧ ns.length < 64 ∧ ∀ p, H1 p = none → Q (.ref p) (upd H1 p (.lst ((uSort ns).map V.int)))
theorem boot_sorted : bootBuiltins "sorted" = some (.builtin "sorted") := by decide +kernel
theorem pe_sortU {a : Expr} {ta : TE} {p p2 q pos : Pos} (hc : X.calm = true) (hg : Gl X "sorted") (hm : X.mg "sorted" = none) (hg2 : Gl X "set") (hm2 : X.mg "set" = none) (ha : PE X a ta)
    (na : starEach [a] X.env = (false, eval a X.env) :: starEach [] X.env := by rfl) : PE X (.Call (.Name "sorted" p) [.Call (.Name "set" p2) [a] [] q] [] pos) (tSortU X.K ta) := by
  refine ⟨fun pins s σ H Q I h => ?_⟩
  refine Call_ (ld_blt I hg hm boot_sorted ?_)
  refine PyProof.Rows.callWith_builtin1 (PyProof.Rows.args_cons ?_ rfl) rfl rfl
  refine Call_ (ld_blt I hg2 hm2 boot_set ?_)
  refine PyProof.Rows.callWith_type1 (PyProof.Rows.args_cons (thn (ha.run pins s σ H _ I h) fun v s1 ⟨x, H1, I1, r1, q1⟩ => PyProof.Rows.args_nil ?_) na) na rfl
  obtain ⟨l, ns, rfl, hq, h1, q1⟩ := q1
  cases r1
  obtain ⟨its, r, pl, hz⟩ := I1.list hq
  refine call_setI (I1.ok.hd hc) pl.isList (by simpa using r.ints) (by unfold scanBound; omega) fun h' tk c hS hcl hk => ?_
  refine PyProof.Rows.args_nil ?_
  have I2 : Inv X pins σ H1 { s1 with heap := h', toks := tk } := I1.kept fun b o e => hk b o e
  refine sorted_set hS (I2.ok.hd hc) (by omega) fun s' p out c' ms k1 hg2 ho hp hout hi hlt hmem hlen => ?_
  have e : ms = uSort ns := lt_uniq hlt (uSort_lt ns) fun k => by rw [hmem k, uSort_mem]; simp
  subst e
  obtain ⟨h2, g2, d2, t2, o2⟩ := s'
  have hg2 : g2 = s1.gens := hg2
  have ho : o2 = s1.os := ho
  subst hg2; subst ho
  have hf : H1 p = none := I2.hok.fresh hp
  have hl : ((uSort ns).map V.int).length ≤ sizeLine := by rw [List.length_map, hlen, sizeLine_eq]; omega
  have J := Inv.laid (a := p) (o := .lst ((uSort ns).map V.int)) (t' := t2) (h' := h2) I2 k1 hp ⟨hl, out.toList, c', vals_of_ints hi, hout⟩
  exact ⟨.ref p, _, ⟨J.ok, J.os, J.bare, J.base, J.loc, J.cell, J.free, J.freeC, J.pin, J.hok, J.len⟩, rfl, q1 p hf⟩
theorem l_sortU {a : Expr} {p p2 q pos : Pos} (hc : X.calm = true) (hK : X.K = Γ.K) (hm : X.mg "sorted" = none) (hm2 : X.mg "set" = none) (ha : PE X a (rd Γ Z α)) (hg : Gl X "sorted" := by rfl) (hg2 : Gl X "set" := by rfl)
    (na : starEach [a] X.env = (false, eval a X.env) :: starEach [] X.env := by rfl) : PE X (.Call (.Name "sorted" p) [.Call (.Name "set" p2) [a] [] q] [] pos) (rdL Γ Z (lSortU α)) := by
  refine PE.imp (pe_sortU hc hg hm hg2 hm2 ha na) ?_
  rintro σ H Q ⟨ρ, env, st, hS, hE, hp⟩
  refine ⟨ρ, env, st, hS, hE, (Post.bindL hS hp).mono ?_⟩
  rintro v H1 ⟨w, s1, ρ1, e1, hS1, x1, r1, h1⟩
  cases e2 : lstOf s1 w with
  | none => rw [e2] at h1; exact h1.elim
  | some ws =>
    rw [e2, Option.bind_some] at h1
    cases e3 : intsOf ws with
    | none => rw [e3] at h1; exact h1.elim
    | some ns =>
      simp only [e3] at h1
      obtain ⟨a, us, rfl, hq, rl⟩ := lst_sq hS1 r1 e2
      rw [ints_V rl e3] at hq
      split at h1
      · rename_i hl
        have rr : ∀ (l : List Int), RepL Γ ρ1 H1 (l.map W.int) (l.map V.int) := by
          intro l
          induction l with
          | nil => exact rfl
          | cons i l ih => exact .cons rfl ih
        exact ⟨a, ns, rfl, by rw [hK]; exact hq, hl, fun p hp => h1 p _ ρ1 _ (Fresh.of hS1 hp (rr _))⟩
      · exact h1.elim
end
end M

-- Lib
set_option autoImplicit false
set_option linter.all false
namespace M
open Classical

/-! what the plain laws need of the small language -/
def Nxt (J : Env → Store → Prop) (P : RS → Prop) : RS → Prop
  | .nx e s => J e s
  | .cnt e s => J e s
  | .brk e s => P (.nx e s)
  | .ret w s => P (.ret w s)
  | .exc x e s => P (.exc x e s)
  | .stuck => False
@[simp] theorem Nxt_nx {J : Env → Store → Prop} {P : RS → Prop} (e : Env) (s : Store) : Nxt J P (.nx e s) = J e s := rfl
@[simp] theorem Nxt_cnt {J : Env → Store → Prop} {P : RS → Prop} (e : Env) (s : Store) : Nxt J P (.cnt e s) = J e s := rfl
@[simp] theorem Nxt_brk {J : Env → Store → Prop} {P : RS → Prop} (e : Env) (s : Store) : Nxt J P (.brk e s) = P (.nx e s) := rfl
@[simp] theorem Nxt_ret {J : Env → Store → Prop} {P : RS → Prop} (w : W) (s : Store) : Nxt J P (.ret w s) = P (.ret w s) := rfl

theorem forGo_ix {G : Store → Prop} {g : Tg} {body : IS} {P : RS → Prop} (ws : List W) (I : Nat → Env → Store → Prop)
    (step : ∀ k (h : k < ws.length) env st, I k env st → G st ∧ ∃ e, g.run ws[k] env = some e ∧ Nxt (I (k + 1)) P (body e st))
    (last : ∀ env st, I ws.length env st → G st ∧ P (.nx env st)) :
    ∀ env st, I 0 env st → P (forGo G g body ws env st) := by
  induction ws generalizing I with
  | nil => intro env st h; obtain ⟨a, b⟩ := last env st h; simp only [forGo, if_pos a]; exact b
  | cons w ws ih =>
    intro env st h
    obtain ⟨a, e, he, hn⟩ := step 0 (by simp) env st h
    simp only [List.getElem_cons_zero] at he
    simp only [forGo, if_pos a, he]
    have go := ih (fun k => I (k + 1)) (fun k hk env st hI => by
      have := step (k + 1) (by simpa using hk) env st hI
      simpa using this) (fun env st hI => last env st (by simpa using hI))
    revert hn
    cases body e st <;> intro hn <;> simp only [Nxt] at hn ⊢
    case nx e1 s1 => exact go e1 s1 hn
    case cnt e1 s1 => exact go e1 s1 hn
    all_goals first | exact hn | exact hn.elim

@[simp] theorem upTo_length (lo : Int) (n : Nat) : (upTo lo n).length = n := by simp [upTo]
@[simp] theorem upTo_g (lo : Int) (n k : Nat) (h : k < (upTo lo n).length) : (upTo lo n)[k] = .int (lo + k) := by simp [upTo]
theorem forGo_up {G : Store → Prop} {g : Tg} {body : IS} {P : RS → Prop} (lo : Int) (n : Nat) (I : Nat → Env → Store → Prop)
    (step : ∀ k, k < n → ∀ env st, I k env st → G st ∧ ∃ e, g.run (.int (lo + k)) env = some e ∧ Nxt (I (k + 1)) P (body e st))
    (last : ∀ env st, I n env st → G st ∧ P (.nx env st)) :
    ∀ env st, I 0 env st → P (forGo G g body (upTo lo n) env st) :=
  forGo_ix (upTo lo n) I (fun k h env st hI => by
    rw [upTo_g]; exact step k (by simpa using h) env st hI) (fun env st hI => last env st (by simpa using hI))

@[simp] theorem enumFrom_length (k : Nat) (ws : List W) : (enumFrom k ws).length = ws.length := by
  induction ws generalizing k with
  | nil => rfl
  | cons w ws ih => simp [enumFrom, ih]
@[simp] theorem enumFrom_g (j : Nat) (ws : List W) (k : Nat) (h : k < (enumFrom j ws).length) : (enumFrom j ws)[k] = .tup [.int ((j + k : Nat) : Int), ws[k]'(by simpa using h)] := by
  induction ws generalizing j k with
  | nil => simp [enumFrom] at h
  | cons w ws ih =>
    cases k with
    | zero => simp [enumFrom]
    | succ k => simp only [enumFrom, List.getElem_cons_succ]; rw [ih]; congr 3; omega
theorem forGo_enum {G : Store → Prop} {g : Tg} {body : IS} {P : RS → Prop} (ws : List W) (I : Nat → Env → Store → Prop)
    (step : ∀ k (h : k < ws.length) env st, I k env st → G st ∧ ∃ e, g.run (.tup [.int (k : Int), ws[k]]) env = some e ∧ Nxt (I (k + 1)) P (body e st))
    (last : ∀ env st, I ws.length env st → G st ∧ P (.nx env st)) :
    ∀ env st, I 0 env st → P (forGo G g body (enumFrom 0 ws) env st) :=
  forGo_ix (enumFrom 0 ws) I (fun k h env st hI => by
    rw [enumFrom_g]; simpa using step k (by simpa using h) env st hI) (fun env st hI => last env st (by simpa using hI))
theorem enumFrom_map {α : Type} (c : α → W) (l : List α) (j : Nat) : enumFrom j (l.map c) = (l.zipIdx j).map fun p => .tup [.int ((p.2 : Nat) : Int), c p.1] := by
  induction l generalizing j with
  | nil => rfl
  | cons a l ih => simp [enumFrom, ih]
@[simp] theorem zipW_length (a b : List W) : (zipW a b).length = min a.length b.length := by
  induction a generalizing b with
  | nil => simp [zipW]
  | cons x a ih => cases b with
    | nil => simp [zipW]
    | cons y b => simp [zipW, ih]
@[simp] theorem zipW_g (a b : List W) (k : Nat) (h : k < (zipW a b).length) : (zipW a b)[k] = .tup [a[k]'(by simp at h; omega), b[k]'(by simp at h; omega)] := by
  induction a generalizing b k with
  | nil => simp [zipW] at h
  | cons x a ih => cases b with
    | nil => simp [zipW] at h
    | cons y b => cases k with
      | zero => simp [zipW]
      | succ k => simp only [zipW, List.getElem_cons_succ]; rw [ih]

theorem zipW_map {α β : Type} (f : α → W) (g : β → W) (a : List α) (b : List β) : zipW (a.map f) (b.map g) = (a.zip b).map fun p => .tup [f p.1, g p.2] := by
  induction a generalizing b with
  | nil => simp [zipW]
  | cons x a ih => cases b with
    | nil => simp [zipW]
    | cons y b => simp [zipW, ih]
/-! comprehensions that leave the store alone -/
theorem lcGo_of {α : Type} {G : Store → Prop} {g : Tg} {t : IT} {elt : IE} {env : Env} (l : List α) (c : α → W) (p : α → Bool) (h : α → W) {st : Store} (hG : G st)
    (step : ∀ a ∈ l, ∃ e, g.run (c a) env = some e ∧ t e st = .ok (p a) st ∧ (p a = true → elt e st = .ok (h a) st)) :
    ∀ acc : List W, acc.length + l.length ≤ lim → lcGo G g t elt env (l.map c) st acc = .ok (acc ++ (l.filter p).map h) st := by
  induction l with
  | nil => intro acc _; simp [lcGo, hG]
  | cons a l ih =>
    intro acc hl
    obtain ⟨e, he, ht, hy⟩ := step a (by simp)
    have ih' := ih (fun b hb => step b (by simp [hb]))
    simp only [List.length_cons] at hl
    simp only [List.map_cons, lcGo, if_pos hG, he, ht]
    cases hp : p a with
    | false => simp only; rw [ih' acc (by omega)]; simp [hp]
    | true =>
      simp only [hy hp]
      rw [if_pos (by omega), ih' (acc ++ [h a]) (by simp; omega)]
      simp [hp]
theorem lcGo_map {α : Type} {G : Store → Prop} {g : Tg} {elt : IE} {env : Env} (l : List α) (c : α → W) (h : α → W) {st : Store} (hG : G st)
    (step : ∀ a ∈ l, ∃ e, g.run (c a) env = some e ∧ elt e st = .ok (h a) st) (hl : l.length ≤ lim) :
    lcGo G g tYes elt env (l.map c) st [] = .ok (l.map h) st := by
  rw [lcGo_of l c (fun _ => true) h hG (fun a ha => by
    obtain ⟨e, x, y⟩ := step a ha
    exact ⟨e, x, rfl, fun _ => y⟩) [] (by simpa using hl)]
  rw [List.filter_eq_self.2 (by simp)]; simp
theorem upTo_eq (lo : Int) (n : Nat) : upTo lo n = (List.range n).map fun k : Nat => W.int (lo + k) := rfl

theorem lcGo_up {G : Store → Prop} {g : Tg} {elt : IE} {env : Env} (lo : Int) (n : Nat) (h : Nat → W) {st : Store} (hG : G st)
    (step : ∀ k, k < n → ∃ e, g.run (.int (lo + k)) env = some e ∧ elt e st = .ok (h k) st) (hl : n ≤ lim) :
    lcGo G g tYes elt env (upTo lo n) st [] = .ok ((List.range n).map h) st :=
  lcGo_map (List.range n) (fun k : Nat => W.int (lo + k)) h hG (fun a ha => step a (by simpa using ha)) (by simpa using hl)
theorem lcGo_upF {G : Store → Prop} {g : Tg} {t : IT} {elt : IE} {env : Env} (lo : Int) (n : Nat) (p : Nat → Bool) (h : Nat → W) {st : Store} (hG : G st)
    (step : ∀ k, k < n → ∃ e, g.run (.int (lo + k)) env = some e ∧ t e st = .ok (p k) st ∧ (p k = true → elt e st = .ok (h k) st)) (hl : n ≤ lim) :
    lcGo G g t elt env (upTo lo n) st [] = .ok (((List.range n).filter p).map h) st := by
  have := lcGo_of (List.range n) (fun k : Nat => W.int (lo + k)) p h hG (t := t) (g := g) (elt := elt) (env := env) (fun a ha => step a (by simpa using ha)) [] (by simpa using hl)
  simp only [List.nil_append] at this; exact this
theorem enumFrom_range {α : Type} (c : α → W) (t : List α) (d : α) : enumFrom 0 (t.map c) = (List.range t.length).map fun i : Nat => .tup [.int ((i : Nat) : Int), c (t.getD i d)] := by
  apply List.ext_getElem
  · simp
  · intro i h1 h2
    simp at h1 h2
    simp [h1, h2]
/-! places and data -/
@[simp] theorem bdL_eq (n : Nat) (ws : List W) : bdL n ws = ws.all fun w => w.bd n := by
  induction ws with
  | nil => simp [bdL]
  | cons w ws ih => simp [bdL, ih]
@[simp] theorem bd_non (n : Nat) : W.non.bd n = true := by simp [W.bd]
@[simp] theorem bd_bl (n : Nat) (b : Bool) : (W.bl b).bd n = true := by simp [W.bd]
@[simp] theorem bd_int (n : Nat) (i : Int) : (W.int i).bd n = true := by simp [W.bd]
@[simp] theorem bd_str (n : Nat) (s : List Nat) : (W.str s).bd n = true := by simp [W.bd]
@[simp] theorem bd_tup (n : Nat) (ws : List W) : (W.tup ws).bd n = ws.all fun w => w.bd n := by simp [W.bd]
@[simp] theorem bd_lst (n : Nat) (ws : List W) : (W.lst ws).bd n = ws.all fun w => w.bd n := by simp [W.bd]
@[simp] theorem bd_ro (n : Nat) (ws : List W) : (W.ro ws).bd n = ws.all fun w => w.bd n := by simp [W.bd]
@[simp] theorem bd_loc (n m : Nat) : (W.loc m).bd n = decide (m < n) := by simp [W.bd]
@[simp] theorem okDL_eq (ws : List W) (n : Nat) : okDL ws n = ws.all fun w => w.okD n := by
  induction ws with
  | nil => simp [okDL]
  | cons w ws ih => simp [okDL, ih]
@[simp] theorem okD_non (n : Nat) : W.non.okD n = true := by simp [W.okD]
@[simp] theorem okD_bl (n : Nat) (b : Bool) : (W.bl b).okD n = true := by simp [W.okD]
@[simp] theorem okD_int (n : Nat) (i : Int) : (W.int i).okD n = true := by simp [W.okD]
@[simp] theorem okD_str (n : Nat) (s : List Nat) : (W.str s).okD n = s.all (· < 1114112) := by simp [W.okD]
@[simp] theorem okD_tup (n : Nat) (ws : List W) : (W.tup ws).okD (n + 1) = ws.all fun w => w.okD n := by simp [W.okD]
@[simp] theorem okD_lst (n : Nat) (ws : List W) : (W.lst ws).okD (n + 1) = ws.all fun w => w.okD n := by simp [W.okD]
@[simp] theorem okD_ro (n : Nat) (ws : List W) : (W.ro ws).okD (n + 1) = ws.all fun w => w.okD n := by simp [W.okD]
@[simp] theorem eqv_non : W.non.eqv .non = true := by simp [W.eqv]
@[simp] theorem eqv_bl (a b : Bool) : (W.bl a).eqv (.bl b) = (a == b) := by simp [W.eqv]
@[simp] theorem eqv_int (a b : Int) : (W.int a).eqv (.int b) = (a == b) := by simp [W.eqv]
@[simp] theorem eqv_bi (a : Bool) (b : Int) : (W.bl a).eqv (.int b) = ((if a then 1 else 0) == b) := by simp [W.eqv]
@[simp] theorem eqv_ib (a : Int) (b : Bool) : (W.int a).eqv (.bl b) = (a == (if b then 1 else 0)) := by simp [W.eqv]
@[simp] theorem eqv_str (a b : List Nat) : (W.str a).eqv (.str b) = (a == b) := by simp [W.eqv]
@[simp] theorem eqv_tup (a b : List W) : (W.tup a).eqv (.tup b) = eqvL a b := by simp [W.eqv]
@[simp] theorem eqv_lst (a b : List W) : (W.lst a).eqv (.lst b) = eqvL a b := by simp [W.eqv]
@[simp] theorem eqvL_nil : eqvL [] [] = true := by simp [eqvL]
@[simp] theorem eqvL_nc (b : W) (bs : List W) : eqvL [] (b :: bs) = false := by simp [eqvL]
@[simp] theorem eqvL_cn (a : W) (as : List W) : eqvL (a :: as) [] = false := by simp [eqvL]
@[simp] theorem eqvL_cc (a b : W) (as bs : List W) : eqvL (a :: as) (b :: bs) = (a.eqv b && eqvL as bs) := by simp [eqvL]
theorem eqvL_nil_r (as : List W) : eqvL as [] = as.isEmpty := by cases as <;> simp
theorem eqvL_map {α : Type} [BEq α] (c : α → W) (hc : ∀ a b, (c a).eqv (c b) = (a == b)) (as bs : List α) : eqvL (as.map c) (bs.map c) = (as == bs) := by
  induction as generalizing bs with
  | nil => cases bs <;> simp
  | cons a as ih => cases bs with
    | nil => simp
    | cons b bs => simp [ih, hc]
@[simp] theorem eqvL_bl (as bs : List Bool) : eqvL (as.map .bl) (bs.map .bl) = (as == bs) := eqvL_map _ eqv_bl as bs
@[simp] theorem eqvL_int (as bs : List Int) : eqvL (as.map .int) (bs.map .int) = (as == bs) := eqvL_map _ eqv_int as bs

@[simp] theorem flat_non : W.non.flat = true := rfl
@[simp] theorem flat_bl (b : Bool) : (W.bl b).flat = true := rfl
@[simp] theorem flat_int (b : Int) : (W.int b).flat = true := rfl
@[simp] theorem flat_str (b : List Nat) : (W.str b).flat = true := rfl
@[simp] theorem flat_tup (b : List W) : (W.tup b).flat = false := rfl
@[simp] theorem flat_lst (b : List W) : (W.lst b).flat = false := rfl
@[simp] theorem flat_ro (b : List W) : (W.ro b).flat = false := rfl
@[simp] theorem flat_loc (n : Nat) : (W.loc n).flat = false := rfl
@[simp] theorem allFlat_nil : allFlat [] = true := rfl
@[simp] theorem allFlat_cons (w : W) (ws : List W) : allFlat (w :: ws) = (w.flat && allFlat ws) := rfl
theorem allFlat_map {α : Type} (c : α → W) (hc : ∀ a, (c a).flat = true) (l : List α) : allFlat (l.map c) = true := by simp [allFlat, List.all_eq_true, hc]
@[simp] theorem all_flat_bl (l : List Bool) : allFlat (l.map W.bl) = true := allFlat_map _ (fun _ => rfl) l
@[simp] theorem all_flat_int (l : List Int) : allFlat (l.map W.int) = true := allFlat_map _ (fun _ => rfl) l
@[simp] theorem all_flat_str (l : List (List Nat)) : allFlat (l.map W.str) = true := allFlat_map _ (fun _ => rfl) l
@[simp] theorem hasW_nil (x : W) : hasW [] x = false := rfl
@[simp] theorem hasW_cons (w : W) (ws : List W) (x : W) : hasW (w :: ws) x = (w.eqv x || hasW ws x) := rfl
theorem hasW_map {α : Type} (c : α → W) (b : α) (hc : ∀ a, (c a).eqv (c b) = true ↔ a = b) (l : List α) [Decidable (b ∈ l)] : hasW (l.map c) (c b) = decide (b ∈ l) := by
  unfold hasW
  rw [Bool.eq_iff_iff]; simp only [List.any_eq_true, List.mem_map, decide_eq_true_eq]
  constructor
  · rintro ⟨_, ⟨a, h, rfl⟩, e⟩; rw [hc] at e; subst e; exact h
  · intro h; exact ⟨_, ⟨b, h, rfl⟩, (hc b).2 rfl⟩
@[simp] theorem any_eqv_bl (l : List Bool) (b : Bool) : hasW (l.map W.bl) (W.bl b) = decide (b ∈ l) := hasW_map W.bl b (fun a => by simp) l
@[simp] theorem any_eqv_int (l : List Int) (b : Int) : hasW (l.map W.int) (W.int b) = decide (b ∈ l) := hasW_map W.int b (fun a => by simp) l
@[simp] theorem any_eqv_str (l : List (List Nat)) (b : List Nat) : hasW (l.map W.str) (W.str b) = decide (b ∈ l) := hasW_map W.str b (fun a => by simp) l
@[simp] theorem flat_exv (a : Nat) (c : String) (f : Option (Nat × List String)) (ws : List W) : (W.exv a c f ws).flat = false := rfl
@[simp] theorem bd_exv (n a : Nat) (c : String) (f : Option (Nat × List String)) (ws : List W) : (W.exv a c f ws).bd n = ws.all fun w => w.bd n := by simp [W.bd]
@[simp] theorem seqOf_exv (st : Store) (a : Nat) (c : String) (f : Option (Nat × List String)) (ws : List W) : seqOf st (.exv a c f ws) = none := rfl
@[simp] theorem flat_rng (i j : Int) : (W.rng i j).flat = false := rfl
@[simp] theorem bd_rng (n : Nat) (i j : Int) : (W.rng i j).bd n = true := by simp [W.bd]
@[simp] theorem seqOf_rng (st : Store) (i j : Int) : seqOf st (.rng i j) = none := rfl
@[simp] theorem lstOf_rng (st : Store) (i j : Int) : lstOf st (.rng i j) = none := rfl
@[simp] theorem look_rng (st : Store) (i j : Int) : look st (.rng i j) = .rng i j := rfl
@[simp] theorem flat_dctP (ks vs : List W) : (W.dctP ks vs).flat = false := rfl
@[simp] theorem bd_dctP (n : Nat) (ks vs : List W) : (W.dctP ks vs).bd n = ((ks.all fun w => w.bd n) && vs.all fun w => w.bd n) := by simp [W.bd]
@[simp] theorem seqOf_dctP (st : Store) (ks vs : List W) : seqOf st (.dctP ks vs) = none := rfl
@[simp] theorem lstOf_dctP (st : Store) (ks vs : List W) : lstOf st (.dctP ks vs) = none := rfl
@[simp] theorem look_dctP (st : Store) (ks vs : List W) : look st (.dctP ks vs) = .dctP ks vs := rfl
@[simp] theorem okD_dctP (ks vs : List W) (n : Nat) : (W.dctP ks vs).okD n = false := by simp [W.okD]
/-! readings of a value in a store -/
@[simp] theorem seqOf_non (st : Store)  : seqOf st .non = none := rfl
@[simp] theorem lstOf_non (st : Store)  : lstOf st .non = none := rfl
@[simp] theorem look_non (st : Store)  : look st .non = W.non := rfl
@[simp] theorem tyOf_non (st : Store)  : tyOf st .non = some "NoneType" := rfl
@[simp] theorem tyM_non (st : Store) (T : String)  : tyM st T .non = false := rfl
@[simp] theorem seqOf_bl (st : Store) (b : Bool) : seqOf st (.bl b) = none := rfl
@[simp] theorem lstOf_bl (st : Store) (b : Bool) : lstOf st (.bl b) = none := rfl
@[simp] theorem look_bl (st : Store) (b : Bool) : look st (.bl b) = W.bl b := rfl
@[simp] theorem tyOf_bl (st : Store) (b : Bool) : tyOf st (.bl b) = some "bool" := rfl
@[simp] theorem tyM_bl (st : Store) (T : String) (b : Bool) : tyM st T (.bl b) = false := rfl
@[simp] theorem seqOf_int (st : Store) (i : Int) : seqOf st (.int i) = none := rfl
@[simp] theorem lstOf_int (st : Store) (i : Int) : lstOf st (.int i) = none := rfl
@[simp] theorem look_int (st : Store) (i : Int) : look st (.int i) = W.int i := rfl
@[simp] theorem tyOf_int (st : Store) (i : Int) : tyOf st (.int i) = some "int" := rfl
@[simp] theorem tyM_int (st : Store) (T : String) (i : Int) : tyM st T (.int i) = (T == "int") := rfl
@[simp] theorem seqOf_str (st : Store) (s : List Nat) : seqOf st (.str s) = none := rfl
@[simp] theorem lstOf_str (st : Store) (s : List Nat) : lstOf st (.str s) = none := rfl
@[simp] theorem look_str (st : Store) (s : List Nat) : look st (.str s) = W.str s := rfl
@[simp] theorem tyOf_str (st : Store) (s : List Nat) : tyOf st (.str s) = some "str" := rfl
@[simp] theorem tyM_str (st : Store) (T : String) (s : List Nat) : tyM st T (.str s) = (T == "str") := rfl
@[simp] theorem seqOf_tup (st : Store) (ws : List W) : seqOf st (.tup ws) = some ws := rfl
@[simp] theorem lstOf_tup (st : Store) (ws : List W) : lstOf st (.tup ws) = none := rfl
@[simp] theorem look_tup (st : Store) (ws : List W) : look st (.tup ws) = W.tup ws := rfl
@[simp] theorem tyOf_tup (st : Store) (ws : List W) : tyOf st (.tup ws) = some "tuple" := rfl
@[simp] theorem tyM_tup (st : Store) (T : String) (ws : List W) : tyM st T (.tup ws) = false := rfl
@[simp] theorem seqOf_lst (st : Store) (ws : List W) : seqOf st (.lst ws) = some ws := rfl
@[simp] theorem lstOf_lst (st : Store) (ws : List W) : lstOf st (.lst ws) = some ws := rfl
@[simp] theorem look_lst (st : Store) (ws : List W) : look st (.lst ws) = W.lst ws := rfl
@[simp] theorem tyOf_lst (st : Store) (ws : List W) : tyOf st (.lst ws) = some "list" := rfl
@[simp] theorem tyM_lst (st : Store) (T : String) (ws : List W) : tyM st T (.lst ws) = (T == "list") := rfl
@[simp] theorem seqOf_ro (st : Store) (ws : List W) : seqOf st (.ro ws) = some ws := rfl
@[simp] theorem lstOf_ro (st : Store) (ws : List W) : lstOf st (.ro ws) = none := rfl
@[simp] theorem look_ro (st : Store) (ws : List W) : look st (.ro ws) = W.ro ws := rfl
@[simp] theorem tyOf_ro (st : Store) (ws : List W) : tyOf st (.ro ws) = none := rfl
@[simp] theorem tyM_ro (st : Store) (T : String) (ws : List W) : tyM st T (.ro ws) = (T == "list") := rfl
@[simp] theorem seqOf_loc (st : Store) (n : Nat) : seqOf st (.loc n) = match st[n]? with
  | some (.lst ws) => some ws
  | _ => none := rfl
@[simp] theorem lstOf_loc (st : Store) (n : Nat) : lstOf st (.loc n) = match st[n]? with
  | some (.lst ws) => some ws
  | _ => none := rfl
@[simp] theorem look_loc (st : Store) (n : Nat) : look st (.loc n) = match st[n]? with
  | some (.lst ws) => .lst ws
  | _ => .loc n := rfl
@[simp] theorem tyOf_loc (st : Store) (n : Nat) : tyOf st (.loc n) = match st[n]? with
  | some (.lst ws) => some "list"
  | _ => none := rfl
@[simp] theorem tyM_loc (st : Store) (T : String) (n : Nat) : tyM st T (.loc n) = match st[n]? with
  | some (.lst ws) => T == "list"
  | _ => false := rfl
@[simp] theorem flat_dct (ks vs : List W) : (W.dct ks vs).flat = false := rfl
@[simp] theorem seqOf_dct (st : Store) (ks vs : List W) : seqOf st (.dct ks vs) = none := rfl
@[simp] theorem lstOf_dct (st : Store) (ks vs : List W) : lstOf st (.dct ks vs) = none := rfl
@[simp] theorem look_dct (st : Store) (ks vs : List W) : look st (.dct ks vs) = (W.dct ks vs) := rfl
@[simp] theorem tyOf_dct (st : Store) (ks vs : List W) : tyOf st (.dct ks vs) = none := rfl
@[simp] theorem tyM_dct (st : Store) (T : String) (ks vs : List W) : tyM st T (.dct ks vs) = false := rfl
@[simp] theorem okD_dct (ks vs : List W) (n : Nat) : (W.dct ks vs).okD n = false := by simp [W.okD]
@[simp] theorem flat_ob (c : String) (ns : List String) (ws : List W) : (W.ob c ns ws).flat = false := rfl
@[simp] theorem seqOf_ob (st : Store) (c : String) (ns : List String) (ws : List W) : seqOf st (.ob c ns ws) = none := rfl
@[simp] theorem lstOf_obj (st : Store) (c : String) (ns : List String) (ws : List W) : lstOf st (.ob c ns ws) = none := rfl
@[simp] theorem look_ob (st : Store) (c : String) (ns : List String) (ws : List W) : look st (.ob c ns ws) = (W.ob c ns ws) := rfl
@[simp] theorem tyOf_ob (st : Store) (c : String) (ns : List String) (ws : List W) : tyOf st (.ob c ns ws) = none := rfl
@[simp] theorem tyM_ob (st : Store) (T : String) (c : String) (ns : List String) (ws : List W) : tyM st T (.ob c ns ws) = false := rfl
@[simp] theorem okD_ob (c : String) (ns : List String) (ws : List W) (n : Nat) : (W.ob c ns ws).okD n = false := by simp [W.okD]
@[simp] theorem bd_dct (n : Nat) (ks vs : List W) : (W.dct ks vs).bd n = ((ks.all fun w => w.bd n) && vs.all fun w => w.bd n) := by simp [W.bd]
@[simp] theorem bd_ob (n : Nat) (c : String) (ns : List String) (ws : List W) : (W.ob c ns ws).bd n = ws.all fun w => w.bd n := by simp [W.bd]
/-! frames -/
theorem OldOk_app (st j : Store) : OldOk st (st ++ j) := ⟨by simp, fun i h => .inl (by simp [List.getElem?_append_left h])⟩
theorem OldOk_refl (st : Store) : OldOk st st := ⟨Nat.le_refl _, fun i h => .inl rfl⟩
theorem OldOk_pool (c c1 : Cell) (st j : Store) (h : c1.bd (c :: st).length = true ∧ c1.isGone = false ∧ c.isGone = false) : OldOk (c :: st) (c1 :: (st ++ j)) := by
  refine ⟨by simp, fun i hi => ?_⟩
  cases i with
  | zero => exact .inr ⟨c1, c, rfl, h.1, h.2.1, rfl, h.2.2⟩
  | succ i => left; simp only [List.getElem?_cons_succ]; simp at hi; rw [List.getElem?_append_left hi]
@[simp] def W.noLoc : W → Bool
  | .loc _ => false
  | _ => true
theorem frz_no {w : W} (h : w.noLoc = true) (n : Nat) (st : Store) : frz n st w = w := by cases w <;> simp at h ⊢
theorem fin_pur {st : Store} {w : W} (j : Store) (hn : w.noLoc = true) (h : w.bd st.length = true) : fin .pur st w (st ++ j) = .ok w st := by
  simp only [fin, frz_no hn]
  rw [if_pos ⟨h, OldOk_app st j⟩]; simp
theorem fin_pur0 {st : Store} {w : W} (hn : w.noLoc = true) (h : w.bd st.length = true) : fin .pur st w st = .ok w st := by
  have := fin_pur (st := st) [] hn h; simpa using this
theorem fin_pool {c c1 : Cell} {st : Store} {w : W} (j : Store) (hc : c1.bd (c :: st).length = true ∧ c1.isGone = false ∧ c.isGone = false) (hn : w.noLoc = true) (h : w.bd (c :: st).length = true) : fin .pur (c :: st) w (c1 :: (st ++ j)) = .ok w (c1 :: st) := by
  simp only [fin, frz_no hn]
  rw [if_pos ⟨h, OldOk_pool c c1 st j hc⟩]; simp
theorem fin_pool0 {c c1 : Cell} {st : Store} {w : W} (hc : c1.bd (c :: st).length = true ∧ c1.isGone = false ∧ c.isGone = false) (hn : w.noLoc = true) (h : w.bd (c :: st).length = true) : fin .pur (c :: st) w (c1 :: st) = .ok w (c1 :: st) := by
  have := fin_pool (w := w) [] hc hn h; simpa using this
/-- a new list handed back -/
theorem fin_new {st : Store} {ws : List W} (j : Store) (k : Nat) (hk : j[k]? = some (.lst ws)) (h : (W.lst ws).bd st.length = true) : fin .pur st (.loc (st.length + k)) (st ++ j) = .ok (.lst ws) st := by
  have e : frz st.length (st ++ j) (.loc (st.length + k)) = .lst ws := by
    have e2 : (st ++ j)[st.length + k]? = some (.lst ws) := by rw [List.getElem?_append_right (by omega)]; simpa using hk
    simp only [frz, e2]
    rw [if_neg (by omega)]
  simp only [fin, e]
  rw [if_pos ⟨h, OldOk_app st j⟩]; simp
theorem fin_newP {c c1 : Cell} {st : Store} {ws : List W} (j : Store) (k : Nat) (hk : j[k]? = some (.lst ws)) (hc : c1.bd (c :: st).length = true ∧ c1.isGone = false ∧ c.isGone = false) (h : (W.lst ws).bd (c :: st).length = true) : fin .pur (c :: st) (.loc (st.length + 1 + k)) (c1 :: (st ++ j)) = .ok (.lst ws) (c1 :: st) := by
  have e : frz (c :: st).length (c1 :: (st ++ j)) (.loc (st.length + 1 + k)) = .lst ws := by
    have e2 : (c1 :: (st ++ j))[st.length + 1 + k]? = some (.lst ws) := by
      rw [show st.length + 1 + k = (st.length + k) + 1 by omega, List.getElem?_cons_succ, List.getElem?_append_right (by omega)]; simpa using hk
    simp only [frz, e2]
    rw [if_neg (by simp)]
  simp only [fin, e]
  rw [if_pos ⟨h, OldOk_pool c c1 st j hc⟩]; simp
/-- the last of a store -/
@[simp] theorem get_end (st : Store) (c : Cell) : (st ++ [c])[st.length]? = some c := by simp
@[simp] theorem set_end (st : Store) (c d : Cell) : (st ++ [c]).set st.length d = st ++ [d] := by simp

@[simp] theorem log_small (n : Nat) (h : n < 9000) : Nat.log2 n < 9000 := Nat.lt_of_le_of_lt (Nat.log2_le_self n) h
theorem log_pow (n : Nat) (h : n < 2 ^ 9000) : Nat.log2 n < 9000 := by
  by_cases h0 : n = 0
  · subst h0; simp
  · exact (Nat.log2_lt h0).2 h
@[simp] theorem inR_1 : inR 1 := by unfold inR; omega
@[simp] theorem inR_2 : inR 2 := by unfold inR; omega
@[simp] theorem inR_3 : inR 3 := by unfold inR; omega
@[simp] theorem inR_4 : inR 4 := by unfold inR; omega
@[simp] theorem inR_5 : inR 5 := by unfold inR; omega
@[simp] theorem inR_6 : inR 6 := by unfold inR; omega
@[simp] theorem inR_7 : inR 7 := by unfold inR; omega
@[simp] theorem inR_8 : inR 8 := by unfold inR; omega
@[simp] theorem inR_9 : inR 9 := by unfold inR; omega
@[simp] theorem inR_10 : inR 10 := by unfold inR; omega
@[simp] theorem inR_11 : inR 11 := by unfold inR; omega
@[simp] theorem inR_12 : inR 12 := by unfold inR; omega
@[simp] theorem inR_13 : inR 13 := by unfold inR; omega
@[simp] theorem inR_14 : inR 14 := by unfold inR; omega
@[simp] theorem inR_15 : inR 15 := by unfold inR; omega
@[simp] theorem inR_16 : inR 16 := by unfold inR; omega
@[simp] theorem inR_17 : inR 17 := by unfold inR; omega
@[simp] theorem inR_18 : inR 18 := by unfold inR; omega
@[simp] theorem inR_19 : inR 19 := by unfold inR; omega
@[simp] theorem inR_20 : inR 20 := by unfold inR; omega
@[simp] theorem inR_21 : inR 21 := by unfold inR; omega
@[simp] theorem inR_22 : inR 22 := by unfold inR; omega
@[simp] theorem inR_23 : inR 23 := by unfold inR; omega
@[simp] theorem inR_24 : inR 24 := by unfold inR; omega
@[simp] theorem inR_25 : inR 25 := by unfold inR; omega
@[simp] theorem inR_26 : inR 26 := by unfold inR; omega
@[simp] theorem inR_27 : inR 27 := by unfold inR; omega
@[simp] theorem inR_28 : inR 28 := by unfold inR; omega
@[simp] theorem inR_29 : inR 29 := by unfold inR; omega
@[simp] theorem inR_30 : inR 30 := by unfold inR; omega
@[simp] theorem inR_31 : inR 31 := by unfold inR; omega
@[simp] theorem inR_32 : inR 32 := by unfold inR; omega
@[simp] theorem inR_33 : inR 33 := by unfold inR; omega
@[simp] theorem inR_34 : inR 34 := by unfold inR; omega
@[simp] theorem inR_35 : inR 35 := by unfold inR; omega
@[simp] theorem inR_36 : inR 36 := by unfold inR; omega
@[simp] theorem inR_37 : inR 37 := by unfold inR; omega
@[simp] theorem inR_38 : inR 38 := by unfold inR; omega
@[simp] theorem inR_39 : inR 39 := by unfold inR; omega
@[simp] theorem inR_40 : inR 40 := by unfold inR; omega
@[simp] theorem inR_41 : inR 41 := by unfold inR; omega
@[simp] theorem inR_42 : inR 42 := by unfold inR; omega
@[simp] theorem inR_43 : inR 43 := by unfold inR; omega
@[simp] theorem inR_44 : inR 44 := by unfold inR; omega
@[simp] theorem inR_45 : inR 45 := by unfold inR; omega
@[simp] theorem inR_46 : inR 46 := by unfold inR; omega
@[simp] theorem inR_47 : inR 47 := by unfold inR; omega
@[simp] theorem inR_48 : inR 48 := by unfold inR; omega
@[simp] theorem inR_49 : inR 49 := by unfold inR; omega
@[simp] theorem inR_50 : inR 50 := by unfold inR; omega
@[simp] theorem inR_51 : inR 51 := by unfold inR; omega
@[simp] theorem inR_52 : inR 52 := by unfold inR; omega
@[simp] theorem inR_53 : inR 53 := by unfold inR; omega
@[simp] theorem inR_54 : inR 54 := by unfold inR; omega
@[simp] theorem inR_55 : inR 55 := by unfold inR; omega
@[simp] theorem inR_56 : inR 56 := by unfold inR; omega
@[simp] theorem inR_57 : inR 57 := by unfold inR; omega
@[simp] theorem inR_58 : inR 58 := by unfold inR; omega
@[simp] theorem inR_59 : inR 59 := by unfold inR; omega
@[simp] theorem inR_60 : inR 60 := by unfold inR; omega
@[simp] theorem inR_61 : inR 61 := by unfold inR; omega
@[simp] theorem inR_62 : inR 62 := by unfold inR; omega
@[simp] theorem inR_63 : inR 63 := by unfold inR; omega
@[simp] theorem inR_64 : inR 64 := by unfold inR; omega
@[simp] theorem inR_65 : inR 65 := by unfold inR; omega
@[simp] theorem inR_nat (n : Nat) (h : n < 9000000) : inR (n : Int) := by unfold inR; omega
@[simp] theorem inR_0 : inR 0 := by unfold inR; omega
theorem pow2_cast (k : Nat) : (2 : Int) ^ k = ((2 ^ k : Nat) : Int) := by simp
@[simp] theorem pow2_pos (k : Nat) : (0 : Int) < 2 ^ k := by
  rw [pow2_cast]; exact Int.natCast_pos.2 (Nat.pow_pos (by omega))
@[simp] theorem pow2_nn (k : Nat) : (0 : Int) ≤ 2 ^ k := Int.le_of_lt (pow2_pos k)
@[simp] theorem pow2_ne (k : Nat) : ((2 : Int) ^ k = 0) = False := by
  have := pow2_pos k; simp; omega
@[simp] theorem pow2_toNat (k : Nat) : ((2 : Int) ^ k).toNat = 2 ^ k := by rw [pow2_cast]; rfl
@[simp] theorem cMul_l (i j : Int) (h : -18446744073709551616 < i) (h2 : i < 18446744073709551616) : cMul i j := .inl ⟨by simpa using h, by simpa using h2⟩
@[simp] theorem cMul_r (i j : Int) (h : -18446744073709551616 < j) (h2 : j < 18446744073709551616) : cMul i j := .inr (.inl ⟨by simpa using h, by simpa using h2⟩)
@[simp] theorem get_app (st l : Store) (k : Nat) : (st ++ l)[st.length + k]? = l[k]? := by
  rw [List.getElem?_append_right (by omega)]; congr 1; omega
@[simp] theorem get_app0 (st l : Store) : (st ++ l)[st.length]? = l[0]? := get_app st l 0
@[simp] theorem set_app (st l : Store) (k : Nat) (x : Cell) : (st ++ l).set (st.length + k) x = st ++ l.set k x := by
  rw [List.set_append_right _ _ (by omega)]; congr 2; omega
@[simp] theorem set_app0 (st l : Store) (x : Cell) : (st ++ l).set st.length x = st ++ l.set 0 x := set_app st l 0 x
@[simp] theorem ixW_n (n k : Nat) (h : k < n) : ixW n (k : Int) = some k := by simp [ixW, h]
/-- one statement of a block -/
theorem sSeq_nx {a b : IS} {env : Env} {st : Store} (e : Env) (s : Store) (h : a env st = .nx e s) : sSeq a b env st = b e s := by simp [h]
theorem sSeq_ret {a b : IS} {env : Env} {st : Store} (w : W) (s : Store) (h : a env st = .ret w s) : sSeq a b env st = .ret w s := by simp [h]
/-! items -/
theorem ixW_nat (n k : Nat) (h : k < n) : ixW n (k : Int) = some k := by simp [ixW, h]
theorem atW_nat (ws : List W) (k : Nat) (h : k < ws.length) : atW ws (k : Int) = some ws[k] := by simp only [atW, ixW_nat _ _ h]; simp [h]
@[simp] theorem atW_ofNat (ws : List W) (k : Nat) (h : k < ws.length) : atW ws (k : Int) = some ws[k] := atW_nat ws k h
@[simp] theorem atW_0 (a0 : W) (ws : List W) : atW (a0 :: ws) 0 = some a0 := atW_nat (a0 :: ws) 0 (by simp)
@[simp] theorem atW_1 (a0 a1 : W) (ws : List W) : atW (a0 :: a1 :: ws) 1 = some a1 := atW_nat (a0 :: a1 :: ws) 1 (by simp)
@[simp] theorem atW_2 (a0 a1 a2 : W) (ws : List W) : atW (a0 :: a1 :: a2 :: ws) 2 = some a2 := atW_nat (a0 :: a1 :: a2 :: ws) 2 (by simp)
@[simp] theorem atW_3 (a0 a1 a2 a3 : W) (ws : List W) : atW (a0 :: a1 :: a2 :: a3 :: ws) 3 = some a3 := atW_nat (a0 :: a1 :: a2 :: a3 :: ws) 3 (by simp)
@[simp] theorem atW_4 (a0 a1 a2 a3 a4 : W) (ws : List W) : atW (a0 :: a1 :: a2 :: a3 :: a4 :: ws) 4 = some a4 := atW_nat (a0 :: a1 :: a2 :: a3 :: a4 :: ws) 4 (by simp)
@[simp] theorem atW_5 (a0 a1 a2 a3 a4 a5 : W) (ws : List W) : atW (a0 :: a1 :: a2 :: a3 :: a4 :: a5 :: ws) 5 = some a5 := atW_nat (a0 :: a1 :: a2 :: a3 :: a4 :: a5 :: ws) 5 (by simp)
@[simp] theorem atW_6 (a0 a1 a2 a3 a4 a5 a6 : W) (ws : List W) : atW (a0 :: a1 :: a2 :: a3 :: a4 :: a5 :: a6 :: ws) 6 = some a6 := atW_nat (a0 :: a1 :: a2 :: a3 :: a4 :: a5 :: a6 :: ws) 6 (by simp)
@[simp] theorem atW_7 (a0 a1 a2 a3 a4 a5 a6 a7 : W) (ws : List W) : atW (a0 :: a1 :: a2 :: a3 :: a4 :: a5 :: a6 :: a7 :: ws) 7 = some a7 := atW_nat (a0 :: a1 :: a2 :: a3 :: a4 :: a5 :: a6 :: a7 :: ws) 7 (by simp)
@[simp] theorem atW_zero (ws : List W) (h : 0 < ws.length) : atW ws 0 = some ws[0] := atW_nat ws 0 h
theorem atW_last (ws : List W) (h : 0 < ws.length) : atW ws (-1) = some (ws[ws.length - 1]'(by omega)) := by
  have : ixW ws.length (-1) = some (ws.length - 1) := by
    simp only [ixW]; rw [if_neg (by omega), if_pos (by omega)]; congr 1; omega
  simp only [atW, this]; simp
end M

-- T
set_option autoImplicit false
set_option linter.all false
namespace M

/-! what a run has to show: predicates of what is wanted of its end -/
abbrev Cs := List Char
abbrev PT (α : Type) := (α → Prop) → (Ex → Prop) → Prop
def pureT {α : Type} (a : α) : PT α := fun Q _ => Q a
def bindT {α β : Type} (t : PT α) (f : α → PT β) : PT β := fun Q X => t (fun a => f a Q X) X
def grdT {α : Type} (c : Prop) (a : α) : PT α := fun Q _ => c ∧ Q a
def optT {α : Type} (o : Option α) : PT α := fun Q _ => ∃ a, o = some a ∧ Q a
def iteT {α : Type} (c : Bool) (a b : PT α) : PT α := fun Q X => if c = true then a Q X else b Q X
def jn {κ : Type} (k : κ) (f : κ → Prop) : Prop := f k
def forT {α σ : Type} (xs : List α) (s : σ) (B : α → σ → (σ → Prop) → (σ → Prop) → Prop) (K : σ → Prop) : Prop := match xs with
  | [] => K s
  | x :: r => B x s (fun s' => forT r s' B K) K
def whN {σ : Type} (B : σ → (σ → Prop) → (σ → Prop) → Prop) (K : σ → Prop) : Nat → σ → Prop
  | 0, _ => False
  | n + 1, s => B s (fun s' => whN B K n s') K
def whT {σ : Type} (s : σ) (B : σ → (σ → Prop) → (σ → Prop) → Prop) (K : σ → Prop) : Prop := ∃ n, whN B K n s
def lcGoT {α β : Type} (c : α → PT Bool) (e : α → PT β) : List α → PT (List β)
  | [] => pureT []
  | x :: r => fun Q X => c x (fun b => if b = true then e x (fun y => lcGoT c e r (fun l => Q (y :: l)) X) (fun _ => False) else lcGoT c e r Q X) (fun _ => False)
def lcT {α β : Type} (xs : List α) (c : α → PT Bool) (e : α → PT β) : PT (List β) := fun Q X => xs.length ≤ lim ∧ lcGoT c e xs Q X
def appT {α : Type} (xs : List α) (a : α) (K : List α → Prop) : Prop := xs.length < lim ∧ K (xs ++ [a])
def setT {α : Type} (xs : List α) (i : Int) (a : α) (K : List α → Prop) : Prop := ∃ j, ixW xs.length i = some j ∧ K (xs.set j a)
def ixT {α : Type} (xs : List α) (i : Int) : PT α := fun Q _ => ∃ j a, ixW xs.length i = some j ∧ xs[j]? = some a ∧ Q a

/-! the pool -/
def Pool (c : Cell) : Prop := ∃ (ns : List Int) (i v k s : Int), c = .lst [.lst (ns.map .int), .int i, .int v, .int k, .int s] ∧ 0 ≤ i
theorem Pool.bd {c : Cell} (h : Pool c) (n : Nat) : c.bd n = true := by
  obtain ⟨ns, i, v, k, s, rfl, -⟩ := h
  simp [Cell.bd]
theorem Pool.ng {c : Cell} (h : Pool c) : c.isGone = false := by
  obtain ⟨ns, i, v, k, s, rfl, -⟩ := h
  rfl
theorem Pool.bd2 {c c1 : Cell} (h : Pool c) (h1 : Pool c1) (n : Nat) : c1.bd n = true ∧ c1.isGone = false ∧ c.isGone = false := ⟨h1.bd n, h1.ng, h.ng⟩
def PoolSt (st : Store) : Prop := ∃ c t, st = c :: t ∧ Pool c
structure Keep (st s : Store) : Prop where
  pool : PoolSt s
  ge : st.length ≤ s.length
  old : ∀ i, 0 < i → i < st.length → s[i]? = st[i]?
theorem Keep.refl {st : Store} (h : PoolSt st) : Keep st st := ⟨h, Nat.le_refl _, fun _ _ _ => rfl⟩
theorem Keep.trans {a b c : Store} (x : Keep a b) (y : Keep b c) : Keep a c :=
  ⟨y.pool, Nat.le_trans x.ge y.ge, fun i h0 h => (y.old i h0 (Nat.lt_of_lt_of_le h x.ge)).trans (x.old i h0 h)⟩
theorem PoolSt.pos {st : Store} (h : PoolSt st) : 0 < st.length := by
  obtain ⟨c, t, rfl, _⟩ := h; simp

/-! how values stand in the small language -/
structure RR (ω α : Type) where
  rel : Store → ω → α → Prop
  stab : ∀ {st s : Store} {w : ω} {a : α}, Keep st s → rel st w a → rel s w a
variable {ω υ α β γ δ σ ν : Type}
/-- a value -/
def rV (e : α → W) : RR W α := ⟨fun _ w a => w = e a, fun _ h => h⟩
/-- the thing itself -/
def rX : RR ω ω := ⟨fun _ w a => w = a, fun _ h => h⟩
def LsOf (s : Store) (w : W) (ws : List W) : Prop := match w with
  | .lst l => l = ws
  | .loc n => 0 < n ∧ s[n]? = some (.lst ws)
  | _ => False
/-- a list: by value, the script, or one of the store's other than the pool -/
def rL (e : α → W) : RR W (List α) := ⟨fun s w xs => LsOf s w (xs.map e), fun {st s w a} k h => by
  cases w <;> try exact h
  rename_i n
  obtain ⟨h0, h1⟩ := h
  exact ⟨h0, by rw [k.old n h0 (List.getElem?_eq_some_iff.mp h1).1]; exact h1⟩⟩
/-- a list or tuple -/
def rS (e : α → W) : RR W (List α) := ⟨fun s w xs => w = .tup (xs.map e) ∨ LsOf s w (xs.map e), fun {st s w a} k h => h.elim .inl fun h => .inr ((rL e).stab k h)⟩
def rLs (e : α → W) : RR (List W) (List α) := ⟨fun _ ws xs => ws = xs.map e, fun _ h => h⟩
def rPool : RR W Unit := ⟨fun _ w _ => w = .loc 0, fun _ h => h⟩
def rNil : RR (List W) Unit := ⟨fun _ w _ => w = [], fun _ h => h⟩
def rCons (r : RR W α) (q : RR (List W) β) : RR (List W) (α × β) := ⟨fun s ws p => ∃ w wr, ws = w :: wr ∧ r.rel s w p.1 ∧ q.rel s wr p.2, fun k ⟨w, wr, e, h1, h2⟩ => ⟨w, wr, e, r.stab k h1, q.stab k h2⟩⟩

/-! encoders -/
def nI : Int → W := .int
def nB : Bool → W := .bl
def nU : Unit → W := fun _ => .non
def nC (s : Cs) : W := .str (s.map Char.toNat)
def nW : W → W := id
def nV (e : α → W) (xs : List α) : W := .tup (xs.map e)
def nL (e : α → W) (xs : List α) : W := .lst (xs.map e)
def nO (e : α → W) : Option α → W
  | none => .non
  | some a => e a
def nT (l : α → List W) (a : α) : W := .tup (l a)
def t0 : Unit → List W := fun _ => []
def t1 (e : α → W) (a : α) : List W := [e a]
def tC (e : α → W) (l : β → List W) (p : α × β) : List W := e p.1 :: l p.2

/-- an encoder of data: names no place -/
class Enc (e : α → W) : Prop where
  bd : ∀ a n, (e a).bd n = true
  nl : ∀ a, (e a).noLoc = true
class EncL (l : α → List W) : Prop where
  bd : ∀ a n, bdL n (l a) = true
class NN (e : α → W) : Prop where
  nn : ∀ a, e a ≠ .non
instance : Enc nI := ⟨fun _ _ => by simp [nI], fun _ => rfl⟩
instance : Enc nB := ⟨fun _ _ => by simp [nB], fun _ => rfl⟩
instance : Enc nU := ⟨fun _ _ => by simp [nU], fun _ => rfl⟩
instance : Enc nC := ⟨fun _ _ => by simp [nC], fun _ => rfl⟩
theorem enc_map (e : α → W) [h : Enc e] (xs : List α) (n : Nat) : bdL n (xs.map e) = true := by
  simp [h.bd]
instance (e : α → W) [h : Enc e] : Enc (nV e) := ⟨fun _ _ => by simp [nV, h.bd], fun _ => rfl⟩
instance (e : α → W) [h : Enc e] : Enc (nL e) := ⟨fun _ _ => by simp [nL, h.bd], fun _ => rfl⟩
instance (e : α → W) [h : Enc e] : Enc (nO e) := ⟨fun a _ => by cases a <;> simp [nO, h.bd], fun a => by
  cases a with
  | none => rfl
  | some a => exact h.nl a⟩
instance (l : α → List W) [h : EncL l] : Enc (nT l) := ⟨fun a n => by have := h.bd a n; simpa [nT] using this, fun _ => rfl⟩
instance : EncL t0 := ⟨fun _ _ => rfl⟩
instance (e : α → W) [h : Enc e] : EncL (t1 e) := ⟨fun a n => by simp [t1, h.bd]⟩
instance (e : α → W) (l : β → List W) [h : Enc e] [k : EncL l] : EncL (tC e l) := ⟨fun a n => by have := k.bd a.2 n; simp [tC, h.bd] at this ⊢; exact this⟩
instance : NN nI := ⟨fun _ h => by simp [nI] at h⟩
instance : NN nB := ⟨fun _ h => by simp [nB] at h⟩
instance : NN nC := ⟨fun _ h => by simp [nC] at h⟩
instance (e : α → W) : NN (nV e) := ⟨fun _ h => by simp [nV] at h⟩
instance (e : α → W) : NN (nL e) := ⟨fun _ h => by simp [nL] at h⟩
instance (l : α → List W) : NN (nT l) := ⟨fun _ h => by simp [nT] at h⟩

/-- data that == tells apart as Lean does -/
class Eqq (e : α → W) (d : outParam Nat) : Prop where
  ok : ∀ a n, d ≤ n → (e a).okD n = true
  eq : ∀ a b, (e a).eqv (e b) = true ↔ a = b
class EqqL (l : α → List W) (d : outParam Nat) : Prop where
  ok : ∀ a n, d ≤ n → okDL (l a) n = true
  eq : ∀ a b, eqvL (l a) (l b) = true ↔ a = b
instance : Eqq nI 0 := ⟨fun a n _ => by simp [nI], fun a b => by simp [nI, W.eqv]⟩
instance : Eqq nB 0 := ⟨fun a n _ => by simp [nB], fun a b => by simp [nB, W.eqv]⟩
theorem toNat_lt (c : Char) : c.toNat < 1114112 := by
  have := c.valid
  unfold UInt32.isValidChar Nat.isValidChar at this
  show c.val.toNat < _
  omega
theorem map_toNat_inj (a b : Cs) : a.map Char.toNat = b.map Char.toNat ↔ a = b := by
  constructor
  · intro h
    exact (List.map_inj_right (f := Char.toNat) (fun x y e => Char.toNat_inj.1 e)).1 h
  · rintro rfl; rfl
instance : Eqq nC 0 := ⟨fun a n _ => by simp [nC]; intro x _; simpa using toNat_lt x, fun a b => by simp [nC, W.eqv, map_toNat_inj]⟩
theorem qvL_map (e : α → W) {d : Nat} [h : Eqq e d] : ∀ xs ys : List α, eqvL (xs.map e) (ys.map e) = true ↔ xs = ys
  | [], [] => by simp [eqvL]
  | [], _ :: _ => by simp [eqvL]
  | _ :: _, [] => by simp [eqvL]
  | x :: xs, y :: ys => by simp [eqvL, h.eq, qvL_map e xs ys]
instance (e : α → W) {d : Nat} [h : Eqq e d] : Eqq (nV e) (d + 1) := ⟨fun a n hn => by
  cases n with
  | zero => omega
  | succ n => simp [nV]; intro x _; exact h.ok x n (by omega), fun a b => by simp [nV, W.eqv, qvL_map]⟩
instance (e : α → W) {d : Nat} [h : Eqq e d] : Eqq (nL e) (d + 1) := ⟨fun a n hn => by
  cases n with
  | zero => omega
  | succ n => simp [nL]; intro x _; exact h.ok x n (by omega), fun a b => by simp [nL, W.eqv, qvL_map]⟩
instance (l : α → List W) {d : Nat} [h : EqqL l d] : Eqq (nT l) (d + 1) := ⟨fun a n hn => by
  cases n with
  | zero => omega
  | succ n => have := h.ok a n (by omega); simpa [nT] using this, fun a b => by simp [nT, W.eqv, h.eq]⟩
instance : EqqL t0 0 := ⟨fun _ _ _ => rfl, fun _ _ => by simp [t0, eqvL]⟩
instance (e : α → W) {d : Nat} [h : Eqq e d] : EqqL (t1 e) d := ⟨fun a n hn => by simp [t1]; exact h.ok a n hn, fun a b => by simp [t1, eqvL, h.eq]⟩
instance (e : α → W) (l : β → List W) {d k : Nat} [h : Eqq e d] [q : EqqL l k] : EqqL (tC e l) (d + k) := ⟨fun a n hn => by
    have h1 := h.ok a.1 n (by omega)
    have h2 := q.ok a.2 n (by omega)
    simp [tC] at h2 ⊢; exact ⟨h1, h2⟩, fun a b => by
    simp only [tC, eqvL, Bool.and_eq_true, h.eq, q.eq]
    exact ⟨fun h => Prod.ext h.1 h.2, fun h => by subst h; exact ⟨rfl, rfl⟩⟩⟩
theorem qv_non (w : W) : W.eqv .non w = true ↔ w = .non := by cases w <;> simp [W.eqv]
theorem qv_non' (w : W) : W.eqv w .non = true ↔ w = .non := by cases w <;> simp [W.eqv]
instance (e : α → W) {d : Nat} [h : Eqq e d] [k : NN e] : Eqq (nO e) d := ⟨fun a n hn => by cases a <;> simp [nO]; exact h.ok _ n hn, fun a b => by
  cases a with
  | none => cases b with
    | none => simp [nO, W.eqv]
    | some b => simp only [nO, qv_non]; simp [k.nn]
  | some a => cases b with
    | none => simp only [nO, qv_non']; simp [k.nn]
    | some b => simp only [nO, h.eq]; simp⟩
/-- flat data: what `in` may look for -/
class Flat (e : α → W) : Prop where
  fl : ∀ a, (e a).flat = true
instance : Flat nI := ⟨fun _ => rfl⟩
instance : Flat nB := ⟨fun _ => rfl⟩
instance : Flat nC := ⟨fun _ => rfl⟩
instance (e : α → W) [h : Flat e] : Flat (nO e) := ⟨fun a => by
  cases a with
  | none => rfl
  | some a => exact h.fl a⟩

/-! contexts -/
structure Ctx where
  st0 : Store
  pat : Env
  ns : List Nat
  cs : List Cell
structure Cx (c : Ctx) (env : Env) (st : Store) : Prop where
  cov : ∀ (i : Nat) (w : W), c.pat[i]? = some (some w) → env[i]? = some (some w)
  len : env.length = c.pat.length
  keep : Keep c.st0 st
  p0 : PoolSt c.st0
  nd : c.ns.Nodup
  nge : ∀ n, n ∈ c.ns → c.st0.length ≤ n
  lc : c.ns.length = c.cs.length
  at_ : ∀ (k : Nat) (n : Nat) (x : Cell), c.ns[k]? = some n → c.cs[k]? = some x → st[n]? = some x
theorem Cx.keeps {c : Ctx} {env : Env} {st s : Store} (h : Cx c env st) (k : Keep st s) : Cx c env s :=
  ⟨h.cov, h.len, h.keep.trans k, h.p0, h.nd, h.nge, h.lc, fun j n x e1 e2 => by
    have hm := h.nge n (List.mem_of_getElem? e1)
    have h0 := h.p0.pos
    have h1 := h.at_ j n x e1 e2
    rw [k.old n (by omega) (List.getElem?_eq_some_iff.mp h1).1]; exact h1⟩
theorem Cx.pool {c : Ctx} {env : Env} {st : Store} (h : Cx c env st) : PoolSt st := h.keep.pool

def OkG (st : Store) (r : RR ω α) (Q : α → Prop) (X : Ex → Prop) : R ω → Prop
  | .ok w s => Keep st s ∧ ∃ a, r.rel s w a ∧ Q a
  | .exc x s => Keep st s ∧ X x ∧ ∀ n, x.bd n = true
  | .stuck => False
theorem OkG.keep {st s : Store} {r : RR ω α} {Q : α → Prop} {X : Ex → Prop} {m : R ω} (k : Keep st s) (h : OkG s r Q X m) : OkG st r Q X m := by
  cases m with
  | ok w s' => exact ⟨k.trans h.1, h.2⟩
  | exc x s' => exact ⟨k.trans h.1, h.2⟩
  | stuck => exact h
/-- what an expression answers -/
def SG (c : Ctx) (e : Env → Store → R ω) (r : RR ω α) (t : PT α) : Prop := ∀ env st, Cx c env st → ∀ Q X, t Q X → OkG st r Q X (e env st)
theorem OkG.bind {st : Store} {r : RR ω α} {r2 : RR υ β} {P : α → Prop} {X : Ex → Prop} {Q : β → Prop} {m : R ω} {f : ω → Store → R υ} (h : OkG st r P X m)
    (k : ∀ w s a, Keep st s → r.rel s w a → P a → OkG s r2 Q X (f w s)) : OkG st r2 Q X (m.bind f) := by
  cases m with
  | ok w s => obtain ⟨h1, a, h2, h3⟩ := h; exact (k w s a h1 h2 h3).keep h1
  | exc x s => exact h
  | stuck => exact h
theorem x_wk {c : Ctx} {e : Env → Store → R ω} {r q : RR ω α} {t : PT α} (h : SG c e r t) (k : ∀ s w a, r.rel s w a → q.rel s w a) : SG c e q t := fun env st hc Q X ht => by
  have := h env st hc Q X ht
  revert this
  cases e env st with
  | ok w s => rintro ⟨a, b, c, d⟩; exact ⟨a, b, k _ _ _ c, d⟩
  | exc x s => exact fun h => h
  | stuck => exact fun h => h
theorem v2l {c : Ctx} {e : IE} {en : α → W} {t : PT (List α)} (h : SG c e (rV (nL en)) t) : SG c e (rL en) t := x_wk h fun s w a e => by rw [e]; rfl
theorem l2s {c : Ctx} {e : IE} {en : α → W} {t : PT (List α)} (h : SG c e (rL en) t) : SG c e (rS en) t := x_wk h fun s w a e => .inr e
theorem v2s {c : Ctx} {e : IE} {en : α → W} {t : PT (List α)} (h : SG c e (rV (nL en)) t) : SG c e (rS en) t := l2s (v2l h)
theorem t2s {c : Ctx} {e : IE} {en : α → W} {t : PT (List α)} (h : SG c e (rV (nV en)) t) : SG c e (rS en) t := x_wk h fun s w a e => .inl e
theorem c_some {c : Ctx} {e : IE} {en : α → W} {t : PT α} (h : SG c e (rV en) t) : SG c e (rV (nO en)) (bindT t fun a => pureT (some a)) := fun env st hc Q X ht => by
  have := h env st hc _ X ht
  revert this
  cases e env st with
  | ok w s => rintro ⟨a, b, rfl, d⟩; exact ⟨a, some b, rfl, d⟩
  | exc x s => exact fun h => h
  | stuck => exact fun h => h
theorem c_get {c : Ctx} {e : IE} {en : α → W} {t : PT (Option α)} (h : SG c e (rV (nO en)) t) : SG c e (rV en) (bindT t fun o => optT o) := fun env st hc Q X ht => by
  have := h env st hc _ X ht
  revert this
  cases e env st with
  | ok w s => rintro ⟨a, b, rfl, d, rfl, q⟩; exact ⟨a, d, rfl, q⟩
  | exc x s => exact fun h => h
  | stuck => exact fun h => h
theorem c_W {c : Ctx} {e : IE} {en : α → W} {t : PT α} (h : SG c e (rV en) t) : SG c e (rV nW) (bindT t fun a => pureT (en a)) := fun env st hc Q X ht => by
  have := h env st hc _ X ht
  revert this
  cases e env st with
  | ok w s => rintro ⟨a, b, rfl, d⟩; exact ⟨a, en b, rfl, d⟩
  | exc x s => exact fun h => h
  | stuck => exact fun h => h

/-! expressions -/
variable {c : Ctx} {e a b : IE} {es : List IE} {en : α → W}
theorem x_var {i : Nat} {x : α} (h : c.pat[i]? = some (some (en x)) := by rfl) : SG c (eVar i) (rV en) (pureT x) := fun env st hc Q X ht => by
  simp only [eVar, hc.cov i _ h]
  exact ⟨.refl hc.pool, x, rfl, ht⟩
theorem x_lpar {i : Nat} {w : W} {xs : List α} (hw : (rL en).rel c.st0 w xs) (h : c.pat[i]? = some (some w) := by rfl) : SG c (eVar i) (rL en) (pureT xs) := fun env st hc Q X ht => by
  simp only [eVar, hc.cov i _ h]
  exact ⟨.refl hc.pool, xs, (rL en).stab hc.keep hw, ht⟩
theorem x_spar {i : Nat} {w : W} {xs : List α} (hw : (rS en).rel c.st0 w xs) (h : c.pat[i]? = some (some w) := by rfl) : SG c (eVar i) (rS en) (pureT xs) := fun env st hc Q X ht => by
  simp only [eVar, hc.cov i _ h]
  exact ⟨.refl hc.pool, xs, (rS en).stab hc.keep hw, ht⟩
theorem Cx.cell {env : Env} {st : Store} (hc : Cx c env st) {k n : Nat} {x : Cell} (h1 : c.ns[k]? = some n) (h2 : c.cs[k]? = some x) : 0 < n ∧ st[n]? = some x :=
  ⟨Nat.lt_of_lt_of_le hc.p0.pos (hc.nge n (List.mem_of_getElem? h1)), hc.at_ k n x h1 h2⟩
theorem x_lmut {i : Nat} (k : Nat) {n : Nat} {xs : List α} (h : c.pat[i]? = some (some (.loc n)) := by rfl) (h1 : c.ns[k]? = some n := by rfl) (h2 : c.cs[k]? = some (.lst (xs.map en)) := by rfl) : SG c (eVar i) (rL en) (pureT xs) := fun env st hc Q X ht => by
  simp only [eVar, hc.cov i _ h]
  exact ⟨.refl hc.pool, xs, hc.cell h1 h2, ht⟩
theorem x_pool {i : Nat} (h : c.pat[i]? = some (some (.loc 0)) := by rfl) : SG c (eVar i) rPool (pureT ()) := fun env st hc Q X ht => by
  simp only [eVar, hc.cov i _ h]
  exact ⟨.refl hc.pool, (), rfl, ht⟩
theorem x_c {w : W} (x : α) (h : w = en x := by rfl) : SG c (eC w) (rV en) (pureT x) := fun env st hc Q X ht => ⟨.refl hc.pool, x, h, ht⟩
theorem x_non : SG c (eC .non) (rV (nO en)) (pureT none) := fun env st hc Q X ht => ⟨.refl hc.pool, none, rfl, ht⟩
/-- operators -/
def Op2 (r1 : RR W α) (r2 : RR W β) (f : W → W → Store → R W) (r3 : RR W γ) (t : α → β → PT γ) : Prop := ∀ s w1 w2 x y, PoolSt s → r1.rel s w1 x → r2.rel s w2 y → ∀ Q X, t x y Q X → OkG s r3 Q X (f w1 w2 s)
theorem x_op {f : W → W → Store → R W} {r1 : RR W α} {r2 : RR W β} {r3 : RR W γ} {t : α → β → PT γ} {ta : PT α} {tb : PT β} (hf : Op2 r1 r2 f r3 t) (ha : SG c a r1 ta) (hb : SG c b r2 tb) :
    SG c (eOp f a b) r3 (bindT ta fun x => bindT tb fun y => t x y) := fun env st hc Q X ht =>
  OkG.bind (ha env st hc _ X ht) fun w s x k1 h1 hx => OkG.bind (hb env s (hc.keeps k1) _ X hx) fun w2 s2 y k2 h2 hy => hf s2 w w2 x y k2.pool (r1.stab k2 h1) h2 Q X hy
def Op1 (r1 : RR W α) (f : W → Store → R W) (r3 : RR W γ) (t : α → PT γ) : Prop := ∀ s w1 x, PoolSt s → r1.rel s w1 x → ∀ Q X, t x Q X → OkG s r3 Q X (f w1 s)
theorem x_un {f : W → Store → R W} {r1 : RR W α} {r3 : RR W γ} {t : α → PT γ} {ta : PT α} (hf : Op1 r1 f r3 t) (ha : SG c a r1 ta) : SG c (eUn f a) r3 (bindT ta fun x => t x) := fun env st hc Q X ht =>
  OkG.bind (ha env st hc _ X ht) fun w s x k1 h1 hx => hf s w x k1.pool h1 Q X hx
theorem okV {s : Store} {en : γ → W} {Q : γ → Prop} {X : Ex → Prop} (h : PoolSt s) (x : γ) (q : Q x) : OkG s (rV en) Q X (.ok (en x) s) := ⟨.refl h, x, rfl, q⟩
theorem o_add : Op2 (rV nI) (rV nI) opAdd (rV nI) fun x y => pureT (x + y) := by rintro s _ _ x y hp rfl rfl Q X h; exact okV (en := nI) hp _ h
theorem o_sub : Op2 (rV nI) (rV nI) opSub (rV nI) fun x y => pureT (x - y) := by rintro s _ _ x y hp rfl rfl Q X h; exact okV (en := nI) hp _ h
theorem okIc {f : Int → Int → Prop} {g : Int → Int → W} {x y : Int} {s : Store} {en : γ → W} {z : γ} (hg : g x y = en z) {Q : γ → Prop} {X : Ex → Prop} (hp : PoolSt s) (h1 : f x y) (h2 : Q z) : OkG s (rV en) Q X (opIc f g (.int x) (.int y) s) := by
  simp only [opIc, if_pos h1, hg]; exact okV hp _ h2
theorem o_mul : Op2 (rV nI) (rV nI) opMul (rV nI) fun x y => grdT (cMul x y) (x * y) := by rintro s _ _ x y hp rfl rfl Q X ⟨h, h2⟩; exact okIc (en := nI) rfl hp h h2
theorem o_div : Op2 (rV nI) (rV nI) opDiv (rV nI) fun x y => grdT (0 < y ∧ y.natAbs.log2 < 9000) (x / y) := by rintro s _ _ x y hp rfl rfl Q X ⟨h, h2⟩; exact okIc (en := nI) rfl hp h h2
theorem o_mod : Op2 (rV nI) (rV nI) opMod (rV nI) fun x y => grdT (0 < y) (x % y) := by rintro s _ _ x y hp rfl rfl Q X ⟨h, h2⟩; exact okIc (en := nI) rfl hp h h2
theorem o_pow : Op2 (rV nI) (rV nI) opPow (rV nI) fun x y => grdT (cPow x y) (x ^ y.toNat) := by rintro s _ _ x y hp rfl rfl Q X ⟨h, h2⟩; exact okIc (en := nI) rfl hp h h2
theorem o_shl : Op2 (rV nI) (rV nI) opShl (rV nI) fun x y => grdT (cPow x y) (x * 2 ^ y.toNat) := by rintro s _ _ x y hp rfl rfl Q X ⟨h, h2⟩; exact okIc (en := nI) rfl hp h h2
theorem o_shr : Op2 (rV nI) (rV nI) opShr (rV nI) fun x y => grdT (0 ≤ y) (x / 2 ^ y.toNat) := by rintro s _ _ x y hp rfl rfl Q X ⟨h, h2⟩; exact okIc (en := nI) rfl hp h h2
theorem o_and : Op2 (rV nI) (rV nI) opAnd (rV nI) fun x y => grdT (0 ≤ x ∧ 0 ≤ y) ((x.toNat &&& y.toNat : Nat) : Int) := by rintro s _ _ x y hp rfl rfl Q X ⟨h, h2⟩; exact okIc (en := nI) rfl hp h h2
theorem o_or : Op2 (rV nI) (rV nI) opOr (rV nI) fun x y => grdT (0 ≤ x ∧ 0 ≤ y) ((x.toNat ||| y.toNat : Nat) : Int) := by rintro s _ _ x y hp rfl rfl Q X ⟨h, h2⟩; exact okIc (en := nI) rfl hp h h2
theorem o_xor : Op2 (rV nI) (rV nI) opXor (rV nI) fun x y => grdT (0 ≤ x ∧ 0 ≤ y) ((x.toNat ^^^ y.toNat : Nat) : Int) := by rintro s _ _ x y hp rfl rfl Q X ⟨h, h2⟩; exact okIc (en := nI) rfl hp h h2
theorem o_lt : Op2 (rV nI) (rV nI) opLt (rV nB) fun x y => pureT (decide (x < y)) := by rintro s _ _ x y hp rfl rfl Q X h; exact okV (en := nB) hp _ h
theorem o_le : Op2 (rV nI) (rV nI) opLe (rV nB) fun x y => pureT (decide (x ≤ y)) := by rintro s _ _ x y hp rfl rfl Q X h; exact okV (en := nB) hp _ h
theorem o_gt : Op2 (rV nI) (rV nI) opGt (rV nB) fun x y => pureT (decide (y < x)) := by rintro s _ _ x y hp rfl rfl Q X h; exact okV (en := nB) hp _ h
theorem o_ge : Op2 (rV nI) (rV nI) opGe (rV nB) fun x y => pureT (decide (y ≤ x)) := by rintro s _ _ x y hp rfl rfl Q X h; exact okV (en := nB) hp _ h
theorem o_addS : Op2 (rV nC) (rV nC) opAdd (rV nC) fun x y => grdT (x.length + y.length ≤ lim) (x ++ y) := by
  rintro s _ _ x y hp rfl rfl Q X h
  have h1 : (x.map Char.toNat).length + (y.map Char.toNat).length ≤ lim := by simpa using h.1
  simp only [opAdd, nC, if_pos h1]
  refine ⟨.refl hp, x ++ y, ?_, h.2⟩
  show _ = nC _
  simp [nC]
theorem o_addT : Op2 (rV (nV en)) (rV (nV en)) opAdd (rV (nV en)) fun x y => grdT (x.length + y.length ≤ lim) (x ++ y) := by
  rintro s _ _ x y hp rfl rfl Q X h
  have h1 : (x.map en).length + (y.map en).length ≤ lim := by simpa using h.1
  simp only [opAdd, nV, if_pos h1]
  refine ⟨.refl hp, x ++ y, ?_, h.2⟩
  show _ = nV en _
  simp [nV]
theorem eqv_dec {d : Nat} [h : Eqq en d] [DecidableEq α] (x y : α) : (en x).eqv (en y) = decide (x = y) := by
  have := h.eq x y
  cases e : (en x).eqv (en y) <;> simp [e] at this ⊢ <;> exact this
theorem look_nl {w : W} (h : w.noLoc = true) (s : Store) : look s w = w := by cases w <;> first | rfl | (simp at h)
theorem o_eq {d : Nat} [h : Eqq en d] [k : Enc en] {_ : DecidableEq α} (hd : d ≤ 64 := by decide) : Op2 (rV en) (rV en) opEq (rV nB) fun x y => pureT (decide (x = y)) := by
  rintro s _ _ x y hp rfl rfl Q X q
  simp only [opEq, look_nl (k.nl _), h.ok _ 64 hd, and_self, if_true, eqv_dec]
  exact okV (en := nB) hp _ q
theorem o_ne {d : Nat} [h : Eqq en d] [k : Enc en] {_ : DecidableEq α} (hd : d ≤ 64 := by decide) : Op2 (rV en) (rV en) opNe (rV nB) fun x y => pureT (!decide (x = y)) := by
  rintro s _ _ x y hp rfl rfl Q X q
  simp only [opNe, look_nl (k.nl _), h.ok _ 64 hd, and_self, if_true, eqv_dec]
  exact okV (en := nB) hp _ q
theorem look_ls {s : Store} {w : W} {ws : List W} (h : LsOf s w ws) : look s w = .lst ws := by
  cases w <;> simp [LsOf] at h ⊢
  · exact h
  · simp [h.2]
theorem o_eqL {d : Nat} [h : Eqq en d] {_ : DecidableEq α} (hd : d < 64 := by decide) : Op2 (rL en) (rL en) opEq (rV nB) fun x y => pureT (decide (x = y)) := by
  rintro s w1 w2 x y hp h1 h2 Q X q
  have ok : ∀ x : List α, okDL (x.map en) 63 = true := fun x => by simp; intro z _; exact h.ok z 63 (by omega)
  have go : ∀ u v : W, u = .lst (x.map en) → v = .lst (y.map en) → u.okD 64 = true ∧ v.okD 64 = true ∧ u.eqv v = decide (x = y) := by
    have e : eqvL (x.map en) (y.map en) = decide (x = y) := by
      have := qvL_map en x y
      cases e : eqvL (x.map en) (y.map en) <;> simp [e] at this ⊢ <;> exact this
    rintro u v rfl rfl; exact ⟨by have := ok x; simp only [W.okD]; exact this, by have := ok y; simp only [W.okD]; exact this, by simp only [W.eqv]; exact e⟩
  obtain ⟨g1, g2, g3⟩ := go _ _ (look_ls h1) (look_ls h2)
  simp only [opEq, g1, g2, and_self, if_true, g3]
  exact okV (en := nB) hp _ q
theorem o_neL {d : Nat} [h : Eqq en d] {_ : DecidableEq α} (hd : d < 64 := by decide) : Op2 (rL en) (rL en) opNe (rV nB) fun x y => pureT (!decide (x = y)) := by
  rintro s w1 w2 x y hp h1 h2 Q X q
  have := o_eqL hd s w1 w2 x y hp h1 h2 (fun z => Q !z) X q
  unfold opEq at this
  unfold opNe
  split at this
  · rename_i g
    rw [if_pos g]
    obtain ⟨_, z, hz, hq⟩ := this
    have hz : W.bl _ = W.bl z := hz
    cases hz
    exact okV (en := nB) hp _ hq
  · exact this.elim
theorem seqOf_rS {s : Store} {w : W} {xs : List α} (h : (rS en).rel s w xs) : seqOf s w = some (xs.map en) := by
  rcases h with rfl | h
  · rfl
  · cases w <;> simp [LsOf] at h ⊢
    · exact h
    · simp [h.2]
theorem hasW_dec {d : Nat} [h : Eqq en d] [DecidableEq α] (xs : List α) (x : α) : hasW (xs.map en) (en x) = decide (x ∈ xs) := by
  unfold hasW
  rw [List.any_map]
  induction xs with
  | nil => simp
  | cons y ys ih => simp [ih, eqv_dec, eq_comm]
theorem dec_sub {p : Prop} (i j : Decidable p) : @decide p i = @decide p j := by congr
theorem hasW_dec' {d : Nat} [h : Eqq en d] {i : ∀ (x : α) (y : List α), Decidable (x ∈ y)} (xs : List α) (x : α) : hasW (xs.map en) (en x) = @decide (x ∈ xs) (i x xs) := by
  haveI : DecidableEq α := fun a b => Classical.propDecidable (a = b)
  rw [hasW_dec]; exact dec_sub _ _
theorem o_in {d : Nat} [h : Eqq en d] [f : Flat en] {i : ∀ (x : α) (y : List α), Decidable (x ∈ y)} : Op2 (rV en) (rS en) (opIn false) (rV nB) fun x y => pureT (@decide (x ∈ y) (i x y)) := by
  rintro s _ w2 x y hp rfl h2 Q X q
  have af : allFlat (y.map en) = true := by unfold allFlat; simp [f.fl]
  have q' : Q (@decide (x ∈ y) (i x y)) := q
  simp only [opIn, seqOf_rS h2, f.fl, af, and_self, if_true, hasW_dec' (i := i), Bool.false_eq_true, if_false]
  exact okV (en := nB) hp _ q'
theorem o_nin {d : Nat} [h : Eqq en d] [f : Flat en] {i : ∀ (x : α) (y : List α), Decidable (x ∈ y)} : Op2 (rV en) (rS en) (opIn true) (rV nB) fun x y => pureT (!@decide (x ∈ y) (i x y)) := by
  rintro s _ w2 x y hp rfl h2 Q X q
  have af : allFlat (y.map en) = true := by unfold allFlat; simp [f.fl]
  have q' : Q (!@decide (x ∈ y) (i x y)) := q
  simp only [opIn, seqOf_rS h2, f.fl, af, and_self, if_true, hasW_dec' (i := i)]
  exact okV (en := nB) hp _ q'
theorem nO_isNon [k : NN en] (x : Option α) : (nO en x).isNon = x.isNone := by
  cases x with
  | none => rfl
  | some a => have := k.nn a; simp only [nO]; cases e : en a <;> simp_all
theorem o_isN [k : NN en] : Op2 (rV (nO en)) (rV nU) opIsN (rV nB) fun x y => pureT x.isNone := by
  rintro s _ _ x y hp rfl rfl Q X q
  simp only [opIsN, nU, nO_isNon]; exact okV (en := nB) hp _ q
theorem o_notN [k : NN en] : Op2 (rV (nO en)) (rV nU) opNotN (rV nB) fun x y => pureT (!x.isNone) := by
  rintro s _ _ x y hp rfl rfl Q X q
  simp only [opNotN, nU, nO_isNon]; exact okV (en := nB) hp _ q
theorem o_isB : Op2 (rV nB) (rV nB) opIsB (rV nB) fun x y => pureT (x == y) := by rintro s _ _ x y hp rfl rfl Q X h; exact okV (en := nB) hp _ h
theorem o_notB : Op2 (rV nB) (rV nB) opNotB (rV nB) fun x y => pureT (!(x == y)) := by rintro s _ _ x y hp rfl rfl Q X h; exact okV (en := nB) hp _ h
theorem u_neg : Op1 (rV nI) unNeg (rV nI) fun x => pureT (-x) := by rintro s _ x hp rfl Q X h; exact okV (en := nI) hp _ h
theorem o_ix : Op2 (rS en) (rV nI) opIx (rV en) fun x y => ixT x y := by
  rintro s w1 _ x y hp h1 rfl Q X ⟨j, z, e1, e2, q⟩
  simp only [opIx, seqOf_rS h1, nI, atW, List.length_map, e1, Option.bind_some, List.getElem?_map, e2, Option.map_some]
  exact okV hp _ q
/-- items of tuples of one length -/
structure Ix (k : Nat) (l : α → List W) (g : α → β) (e : β → W) : Prop where
  at_ : ∀ a, (l a)[k]? = some (e (g a))
theorem ix_one {e : α → W} : Ix 0 (t1 e) id e := ⟨fun _ => rfl⟩
theorem ix_0 {e : α → W} {l : β → List W} : Ix 0 (tC e l) (·.1) e := ⟨fun _ => rfl⟩
theorem ix_S {k : Nat} {e : α → W} {l : β → List W} {g : β → γ} {e2 : γ → W} (h : Ix k l g e2) : Ix (k + 1) (tC e l) (fun p => g p.2) e2 := ⟨fun p => h.at_ p.2⟩
theorem o_ixT {k : Nat} {l : α → List W} {g : α → β} {e2 : β → W} (hi : Ix k l g e2) {ta : PT α} (ha : SG c a (rV (nT l)) ta) : SG c (eOp opIx a (eC (.int (k : Int)))) (rV e2) (bindT ta fun x => pureT (g x)) := fun env st hc Q X ht =>
  OkG.bind (ha env st hc _ X ht) fun w s x k1 h1 hx => by
    have h1 : w = .tup (l x) := h1
    subst h1
    have := hi.at_ x
    have hl := (List.getElem?_eq_some_iff.mp this).1
    simp only [eC, bind_ok, opIx, seqOf_tup, atW, ixW, Int.natCast_nonneg, if_true, Int.ofNat_lt, hl, Option.bind_some, Int.toNat_natCast, this]
    exact okV k1.pool _ hx
/-- displays -/
theorem a_nil' : SG c (eArgs []) rNil (pureT ()) := fun env st hc Q X ht => ⟨.refl hc.pool, (), rfl, ht⟩
theorem a_cons' {r1 : RR W α} {r2 : RR (List W) β} {ta : PT α} {tb : PT β} (ha : SG c e r1 ta) (hb : SG c (eArgs es) r2 tb) : SG c (eArgs (e :: es)) (rCons r1 r2) (bindT ta fun x => bindT tb fun y => pureT (x, y)) := fun env st hc Q X ht =>
  OkG.bind (ha env st hc _ X ht) fun w s x k1 h1 hx => OkG.bind (hb env s (hc.keeps k1) _ X hx) fun w2 s2 y k2 h2 hy => ⟨.refl k2.pool, (x, y), ⟨w, w2, rfl, r1.stab k2 h1, h2⟩, hy⟩
/-- tuples of one length: items one by one -/
def rT (l : α → List W) : RR (List W) α := ⟨fun _ ws a => ws = l a, fun _ h => h⟩
theorem tt_0 : SG c (eArgs []) (rT t0) (pureT ()) := fun env st hc Q X ht => ⟨.refl hc.pool, (), rfl, ht⟩
theorem tt_1 {ta : PT α} (ha : SG c e (rV en) ta) : SG c (eArgs [e]) (rT (t1 en)) ta := fun env st hc Q X ht =>
  OkG.bind (ha env st hc _ X ht) fun w s x k1 h1 hx => ⟨.refl k1.pool, x, by rw [h1]; rfl, hx⟩
theorem tt_C {l : β → List W} {ta : PT α} {tb : PT β} (ha : SG c e (rV en) ta) (hb : SG c (eArgs es) (rT l) tb) : SG c (eArgs (e :: es)) (rT (tC en l)) (bindT ta fun x => bindT tb fun y => pureT (x, y)) := fun env st hc Q X ht =>
  OkG.bind (ha env st hc _ X ht) fun w s x k1 h1 hx => OkG.bind (hb env s (hc.keeps k1) _ X hx) fun w2 s2 y k2 h2 hy => ⟨.refl k2.pool, (x, y), by rw [h1, h2]; rfl, hy⟩
theorem x_tup {l : α → List W} {t : PT α} (h : SG c (eArgs es) (rT l) t) : SG c (eTup es) (rV (nT l)) t := fun env st hc Q X ht =>
  OkG.bind (h env st hc _ X ht) fun w s x k1 h1 hx => ⟨.refl k1.pool, x, by rw [h1]; rfl, hx⟩
/-- lists and tuples of any length: items one by one -/
theorem li_0 : SG c (eArgs []) (rLs en) (pureT []) := fun env st hc Q X ht => ⟨.refl hc.pool, [], rfl, ht⟩
theorem li_C {ta : PT α} {tb : PT (List α)} (ha : SG c e (rV en) ta) (hb : SG c (eArgs es) (rLs en) tb) : SG c (eArgs (e :: es)) (rLs en) (bindT ta fun x => bindT tb fun y => pureT (x :: y)) := fun env st hc Q X ht =>
  OkG.bind (ha env st hc _ X ht) fun w s x k1 h1 hx => OkG.bind (hb env s (hc.keeps k1) _ X hx) fun w2 s2 y k2 h2 hy => ⟨.refl k2.pool, x :: y, by rw [h1, h2]; rfl, hy⟩
theorem x_vec {t : PT (List α)} (h : SG c (eArgs es) (rLs en) t) : SG c (eTup es) (rV (nV en)) t := fun env st hc Q X ht =>
  OkG.bind (h env st hc _ X ht) fun w s x k1 h1 hx => ⟨.refl k1.pool, x, by rw [h1]; rfl, hx⟩
theorem x_lst {l : IL} {t : PT (List α)} (h : SG c l (rLs en) t) : SG c (eLst l) (rV (nL en)) t := fun env st hc Q X ht =>
  OkG.bind (h env st hc _ X ht) fun w s x k1 h1 hx => ⟨.refl k1.pool, x, by rw [h1]; rfl, hx⟩
theorem l_list' {t : PT (List α)} (h : SG c a (rS en) t) : SG c (lList a) (rLs en) t := fun env st hc Q X ht =>
  OkG.bind (h env st hc _ X ht) fun w s x k1 h1 hx => by rw [seqOf_rS h1]; exact ⟨.refl k1.pool, x, rfl, hx⟩
theorem lstOf_rL {s : Store} {w : W} {xs : List α} (h : (rL en).rel s w xs) : lstOf s w = some (xs.map en) := by
  cases w <;> simp [rL, LsOf] at h ⊢
  · exact h
  · simp [h.2]
theorem l_cat' {ta tb : PT (List α)} (ha : SG c a (rL en) ta) (hb : SG c b (rL en) tb) : SG c (lCat a b) (rLs en) (bindT ta fun x => bindT tb fun y => grdT (x.length + y.length ≤ lim) (x ++ y)) := fun env st hc Q X ht =>
  OkG.bind (ha env st hc _ X ht) fun w s x k1 h1 hx => OkG.bind (hb env s (hc.keeps k1) _ X hx) fun w2 s2 y k2 h2 hy => by
    have h1 := (rL en).stab k2 h1
    have h3 : (x.map en).length + (y.map en).length ≤ lim := by simpa using hy.1
    simp only [lstOf_rL h1, lstOf_rL h2, if_pos h3]
    exact ⟨.refl k2.pool, x ++ y, by simp [rLs], hy.2⟩
end M

-- T2
set_option autoImplicit false
set_option linter.all false
namespace M
variable {ω υ α β γ δ σ ν : Type} {c : Ctx} {e a b : IE} {es : List IE} {en : α → W}
/-! lists -/
theorem rS_ls {s : Store} {w : W} {xs : List α} (h : (rL en).rel s w xs) : (rS en).rel s w xs := .inr h
/-- the parts of a slice -/
theorem pt_none : SG c (part none) (rX : RR (Option Int) (Option Int)) (pureT none) := fun env st hc Q X ht => ⟨.refl hc.pool, none, rfl, ht⟩
theorem pt_some {t : PT Int} (h : SG c e (rV nI) t) : SG c (part (some e)) (rX : RR (Option Int) (Option Int)) (bindT t fun i => pureT (some i)) := fun env st hc Q X ht =>
  OkG.bind (h env st hc _ X ht) fun w s x k1 h1 hx => by
    have h1 : w = .int x := h1
    subst h1
    exact ⟨.refl k1.pool, some x, rfl, hx⟩
def cutT {α : Type} (xs : List α) (lo hi : Option Int) : List α := (xs.drop (sIxN xs.length 0 lo)).take (sIxN xs.length xs.length hi - sIxN xs.length 0 lo)
theorem cutW_map (xs : List α) (lo hi : Option Int) : cutW (xs.map en) lo hi = (cutT xs lo hi).map en := by simp [cutW, cutT]
theorem l_sl' {lo hi : Option IE} {t : PT (List α)} {tl th : PT (Option Int)} (h : SG c e (rL en) t) (hl : SG c (part lo) rX tl) (hh : SG c (part hi) rX th) : SG c (lSl e lo hi) (rLs en) (bindT t fun x => bindT tl fun l => bindT th fun h => pureT (cutT x l h)) := fun env st hc Q X ht =>
  OkG.bind (h env st hc _ X ht) fun w s x k1 h1 hx => OkG.bind (hl env s (hc.keeps k1) _ X hx) fun l s2 l' k2 h2 hx2 => OkG.bind (hh env s2 ((hc.keeps k1).keeps k2) _ X hx2) fun u s3 u' k3 h3 hx3 => by
    have h1 := (rL en).stab k3 ((rL en).stab k2 h1)
    have h2 : l = l' := h2
    have h3 : u = u' := h3
    subst h2; subst h3
    have fin : OkG s3 (rLs en) Q X (.ok (cutW (x.map en) l u) s3) := ⟨.refl k3.pool, cutT x l u, cutW_map x l u, hx3⟩
    cases w <;> simp [rL, LsOf] at h1
    · subst h1; exact fin
    · simp only [h1.2]; exact fin
theorem x_slT {lo hi : Option IE} {t : PT (List α)} {tl th : PT (Option Int)} (h : SG c e (rV (nV en)) t) (hl : SG c (part lo) rX tl) (hh : SG c (part hi) rX th) : SG c (eSlT e lo hi) (rV (nV en)) (bindT t fun x => bindT tl fun l => bindT th fun h => pureT (cutT x l h)) := fun env st hc Q X ht =>
  OkG.bind (h env st hc _ X ht) fun w s x k1 h1 hx => OkG.bind (hl env s (hc.keeps k1) _ X hx) fun l s2 l' k2 h2 hx2 => OkG.bind (hh env s2 ((hc.keeps k1).keeps k2) _ X hx2) fun u s3 u' k3 h3 hx3 => by
    have h1 : w = nV en x := h1
    have h2 : l = l' := h2
    have h3 : u = u' := h3
    subst h1; subst h2; subst h3
    refine ⟨.refl k3.pool, cutT x l u, ?_, hx3⟩
    show W.tup (cutW (x.map en) l u) = _
    rw [cutW_map]; rfl
/-! built-in functions -/
def OpC (r : RR (List W) α) (f : List W → Store → R W) (r3 : RR W γ) (t : α → PT γ) : Prop := ∀ s ws x, PoolSt s → r.rel s ws x → ∀ Q X, t x Q X → OkG s r3 Q X (f ws s)
theorem x_b {f : List W → Store → R W} {r : RR (List W) α} {r3 : RR W γ} {t : α → PT γ} {ta : PT α} (hf : OpC r f r3 t) (ha : SG c (eArgs es) r ta) : SG c (eB f es) r3 (bindT ta fun x => t x) := fun env st hc Q X ht =>
  OkG.bind (ha env st hc _ X ht) fun w s x k1 h1 hx => hf s w x k1.pool h1 Q X hx
theorem b_len : OpC (rCons (rS en) rNil) bLen (rV nI) fun p => pureT (p.1.length : Int) := by
  rintro s _ ⟨xs, u⟩ hp ⟨w, _, rfl, h1, rfl⟩ Q X q
  have h2 := seqOf_rS h1
  have : bLen [w] s = .ok (.int (xs.length : Int)) s := by
    cases w <;> simp [bLen] at h2 ⊢ <;> simp [h2]
    all_goals rw [h2]
    all_goals simp
  rw [this]
  exact okV (en := nI) hp _ q
theorem b_lenS : OpC (rCons (rV nC) rNil) bLen (rV nI) fun p => grdT (p.1.length ≤ lim) (p.1.length : Int) := by
  rintro s _ ⟨xs, u⟩ hp ⟨w, _, rfl, h1, rfl⟩ Q X ⟨q1, q2⟩
  have h1 : w = nC xs := h1
  subst h1
  simp only [bLen, nC, List.length_map, if_pos q1]
  exact okV (en := nI) hp _ q2
theorem b_intI : OpC (rCons (rV nI) rNil) bInt (rV nI) fun p => pureT p.1 := by
  rintro s _ ⟨x, u⟩ hp ⟨w, _, rfl, h1, rfl⟩ Q X q
  have h1 : w = nI x := h1
  subst h1
  exact okV (en := nI) hp _ q
theorem b_intB : OpC (rCons (rV nB) rNil) bInt (rV nI) fun p => pureT (if p.1 = true then 1 else 0) := by
  rintro s _ ⟨x, u⟩ hp ⟨w, _, rfl, h1, rfl⟩ Q X q
  have h1 : w = nB x := h1
  subst h1
  exact okV (en := nI) hp _ q
theorem b_tup : OpC (rCons (rS en) rNil) bTup (rV (nV en)) fun p => pureT p.1 := by
  rintro s _ ⟨xs, u⟩ hp ⟨w, _, rfl, h1, rfl⟩ Q X q
  simp only [bTup, seqOf_rS h1]
  exact okV (en := nV en) hp _ q
def strI (i : Int) : Cs := (toString i).toList
theorem b_strI : OpC (rCons (rV nI) rNil) bStr (rV nC) fun p => grdT (p.1.natAbs.log2 < 1920) (strI p.1) := by
  rintro s _ ⟨x, u⟩ hp ⟨w, _, rfl, h1, rfl⟩ Q X ⟨q1, q2⟩
  have h1 : w = nI x := h1
  subst h1
  simp only [bStr, nI, if_pos q1]
  exact okV (en := nC) hp _ q2
theorem b_strS : OpC (rCons (rV nC) rNil) bStr (rV nC) fun p => pureT p.1 := by
  rintro s _ ⟨x, u⟩ hp ⟨w, _, rfl, h1, rfl⟩ Q X q
  have h1 : w = nC x := h1
  subst h1
  simp only [bStr, nC]
  exact okV (en := nC) hp _ q
theorem x_bits {t : PT Int} (h : SG c e (rV nI) t) : SG c (eBits e) (rV nI) (bindT t fun x => pureT (bitsN x : Int)) := fun env st hc Q X ht =>
  OkG.bind (h env st hc _ X ht) fun w s x k1 h1 hx => by
    have h1 : w = nI x := h1
    subst h1
    exact okV (en := nI) k1.pool _ hx
/-! tests and choices -/
def rB : RR Bool Bool := rX
theorem ts_val {t : PT Bool} (h : SG c e (rV nB) t) : SG c (tVal e) rB t := fun env st hc Q X ht =>
  OkG.bind (h env st hc _ X ht) fun w s x k1 h1 hx => by
    have h1 : w = nB x := h1
    subst h1
    exact ⟨.refl k1.pool, x, rfl, hx⟩
theorem ts_and {p q : IT} {tp tq : PT Bool} (h : SG c p rB tp) (k : SG c q rB tq) : SG c (tAnd p q) rB (bindT tp fun x => iteT x tq (pureT false)) := fun env st hc Q X ht =>
  OkG.bind (h env st hc _ X ht) fun w s x k1 h1 hx => by
    have h1 : w = x := h1
    subst h1
    cases w with
    | true => exact k env s (hc.keeps k1) Q X hx
    | false => exact ⟨.refl k1.pool, false, rfl, hx⟩
theorem ts_or {p q : IT} {tp tq : PT Bool} (h : SG c p rB tp) (k : SG c q rB tq) : SG c (tOr p q) rB (bindT tp fun x => iteT x (pureT true) tq) := fun env st hc Q X ht =>
  OkG.bind (h env st hc _ X ht) fun w s x k1 h1 hx => by
    have h1 : w = x := h1
    subst h1
    cases w with
    | false => exact k env s (hc.keeps k1) Q X hx
    | true => exact ⟨.refl k1.pool, true, rfl, hx⟩
theorem ts_not {p : IT} {tp : PT Bool} (h : SG c p rB tp) : SG c (tNot p) rB (bindT tp fun x => pureT (!x)) := fun env st hc Q X ht =>
  OkG.bind (h env st hc _ X ht) fun w s x k1 h1 hx => by
    have h1 : w = x := h1
    subst h1
    exact ⟨.refl k1.pool, _, rfl, hx⟩
theorem ts_yes : SG c tYes rB (pureT true) := fun env st hc Q X ht => ⟨.refl hc.pool, true, rfl, ht⟩
theorem ts_B {t : PT Bool} (h : SG c e (rV nB) t) : SG c (tTru e) rB t := fun env st hc Q X ht =>
  OkG.bind (h env st hc _ X ht) fun w s x k1 h1 hx => by
    have h1 : w = nB x := h1
    subst h1
    exact ⟨.refl k1.pool, x, rfl, hx⟩
theorem ts_I {t : PT Int} (h : SG c e (rV nI) t) : SG c (tTru e) rB (bindT t fun x => pureT (x != 0)) := fun env st hc Q X ht =>
  OkG.bind (h env st hc _ X ht) fun w s x k1 h1 hx => by
    have h1 : w = nI x := h1
    subst h1
    exact ⟨.refl k1.pool, _, rfl, hx⟩
theorem ts_S {t : PT (List α)} (h : SG c e (rS en) t) : SG c (tTru e) rB (bindT t fun x => pureT (!x.isEmpty)) := fun env st hc Q X ht =>
  OkG.bind (h env st hc _ X ht) fun w s x k1 h1 hx => by
    have : truth w s = .ok (!x.isEmpty) s := by
      rcases h1 with rfl | h1
      · simp [truth]
      · cases w <;> simp [LsOf] at h1 ⊢
        · simp [h1]
        · simp [h1.2]
    rw [this]
    exact ⟨.refl k1.pool, _, rfl, hx⟩
theorem x_if {p : IT} {r : RR W α} {tp : PT Bool} {ta tb : PT α} (h : SG c p rB tp) (ha : SG c a r ta) (hb : SG c b r tb) : SG c (eIf p a b) r (bindT tp fun x => iteT x ta tb) := fun env st hc Q X ht =>
  OkG.bind (h env st hc _ X ht) fun w s x k1 h1 hx => by
    have h1 : w = x := h1
    subst h1
    cases w with
    | false => exact hb env s (hc.keeps k1) Q X hx
    | true => exact ha env s (hc.keeps k1) Q X hx
theorem x_and {ta tb : PT Bool} (ha : SG c a (rV nB) ta) (hb : SG c b (rV nB) tb) : SG c (eAndV a b) (rV nB) (bindT ta fun x => iteT x tb (pureT false)) := fun env st hc Q X ht =>
  OkG.bind (ha env st hc _ X ht) fun w s x k1 h1 hx => by
    have h1 : w = nB x := h1
    subst h1
    cases x with
    | true => exact hb env s (hc.keeps k1) Q X hx
    | false => exact okV (en := nB) k1.pool false hx
theorem x_or {ta tb : PT Bool} (ha : SG c a (rV nB) ta) (hb : SG c b (rV nB) tb) : SG c (eOrV a b) (rV nB) (bindT ta fun x => iteT x (pureT true) tb) := fun env st hc Q X ht =>
  OkG.bind (ha env st hc _ X ht) fun w s x k1 h1 hx => by
    have h1 : w = nB x := h1
    subst h1
    cases x with
    | false => exact hb env s (hc.keeps k1) Q X hx
    | true => exact okV (en := nB) k1.pool true hx
theorem x_not {ta : PT Bool} (ha : SG c a (rV nB) ta) : SG c (eNotV a) (rV nB) (bindT ta fun x => pureT (!x)) := fun env st hc Q X ht =>
  OkG.bind (ha env st hc _ X ht) fun w s x k1 h1 hx => by
    have h1 : w = nB x := h1
    subst h1
    exact okV (en := nB) k1.pool _ hx
/-! what is walked -/
/-- pins: the cells that must stay -/
def rI (l0 : Nat) (pins : List Nat) (e : α → W) : RR It (List α) := ⟨fun s I xs => I.items = xs.map e ∧ (∀ n ∈ pins, n < s.length) ∧ l0 ≤ s.length ∧ ∀ s', (∀ i, 0 < i → (i < l0 ∨ i ∈ pins) → s'[i]? = s[i]?) → I.guard s',
  fun {st s w a} k ⟨h1, h2, h3, h4⟩ => ⟨h1, fun n hn => Nat.lt_of_lt_of_le (h2 n hn) k.ge, Nat.le_trans h3 k.ge, fun s' h => h4 s' fun i h0 hi => (h i h0 hi).trans (k.old i h0 (hi.elim (fun q => Nat.lt_of_lt_of_le q h3) (h2 i)))⟩⟩
theorem Cx.ge {env : Env} {st : Store} (h : Cx c env st) : c.st0.length ≤ st.length := h.keep.ge
/-- a list or tuple that stays -/
def rP (l0 : Nat) (pins : List Nat) (e : α → W) : RR W (List α) := ⟨fun s w xs => l0 ≤ s.length ∧ (w = .tup (xs.map e) ∨ w = .lst (xs.map e) ∨ ∃ n, w = .loc n ∧ 0 < n ∧ (n < l0 ∨ n ∈ pins) ∧ s[n]? = some (.lst (xs.map e))) ∧ ∀ n ∈ pins, n < s.length,
  fun {st s w a} k ⟨h0, h1, h2⟩ => ⟨Nat.le_trans h0 k.ge, by
    rcases h1 with h1 | h1 | ⟨n, e1, q1, q2, q3⟩
    · exact .inl h1
    · exact .inr (.inl h1)
    · exact .inr (.inr ⟨n, e1, q1, q2, by rw [k.old n q1 (List.getElem?_eq_some_iff.mp q3).1]; exact q3⟩), fun n hn => Nat.lt_of_lt_of_le (h2 n hn) k.ge⟩⟩
theorem p_tup {t : PT (List α)} (h : SG c e (rV (nV en)) t) : SG c e (rP c.st0.length [] en) t := fun env st hc Q X ht => by
  have := h env st hc Q X ht
  revert this
  cases e env st with
  | ok w s => rintro ⟨k, a, b, d⟩; exact ⟨k, a, ⟨(hc.keeps k).ge, .inl b, fun n h => absurd h (by simp)⟩, d⟩
  | exc x s => exact fun h => h
  | stuck => exact fun h => h
theorem p_lst {t : PT (List α)} (h : SG c e (rV (nL en)) t) : SG c e (rP c.st0.length [] en) t := fun env st hc Q X ht => by
  have := h env st hc Q X ht
  revert this
  cases e env st with
  | ok w s => rintro ⟨k, a, b, d⟩; exact ⟨k, a, ⟨(hc.keeps k).ge, .inr (.inl b), fun n h => absurd h (by simp)⟩, d⟩
  | exc x s => exact fun h => h
  | stuck => exact fun h => h
theorem p_par {i : Nat} {w : W} {xs : List α} (hw : (rL en).rel c.st0 w xs) (h : c.pat[i]? = some (some w) := by rfl) : SG c (eVar i) (rP c.st0.length [] en) (pureT xs) := fun env st hc Q X ht => by
  simp only [eVar, hc.cov i _ h]
  have hw' := (rL en).stab hc.keep hw
  refine ⟨.refl hc.pool, xs, ⟨hc.ge, ?_, fun n h => absurd h (by simp)⟩, ht⟩
  cases w <;> simp [rL, LsOf] at hw hw'
  · subst hw; exact .inr (.inl rfl)
  · exact .inr (.inr ⟨_, rfl, hw.1, .inl (List.getElem?_eq_some_iff.mp hw.2).1, hw'.2⟩)
theorem p_mut {i : Nat} (k : Nat) {n : Nat} {xs : List α} (h : c.pat[i]? = some (some (.loc n)) := by rfl) (h1 : c.ns[k]? = some n := by rfl) (h2 : c.cs[k]? = some (.lst (xs.map en)) := by rfl) : SG c (eVar i) (rP c.st0.length [n] en) (pureT xs) := fun env st hc Q X ht => by
  obtain ⟨q1, q2⟩ := hc.cell h1 h2
  simp only [eVar, hc.cov i _ h]
  refine ⟨.refl hc.pool, xs, ⟨hc.ge, .inr (.inr ⟨n, rfl, q1, .inr (by simp), q2⟩), fun m hm => ?_⟩, ht⟩
  simp at hm; subst hm; exact (List.getElem?_eq_some_iff.mp q2).1
theorem itSeq_rP {l0 : Nat} {pins : List Nat} {s : Store} {w : W} {xs : List α} (h : (rP l0 pins en).rel s w xs) : ∃ I, itSeq w s = .ok I s ∧ (rI l0 pins en).rel s I xs := by
  obtain ⟨h0, h1, h2⟩ := h
  rcases h1 with rfl | rfl | ⟨n, rfl, q1, q2, q3⟩
  · exact ⟨_, rfl, rfl, h2, h0, fun _ _ => trivial⟩
  · exact ⟨_, rfl, rfl, h2, h0, fun _ _ => trivial⟩
  · refine ⟨⟨xs.map en, fun s => s[n]? = some (.lst (xs.map en))⟩, by simp only [itSeq, q3], rfl, h2, h0, fun s' q => ?_⟩
    show s'[n]? = _
    rw [q n q1 q2]; exact q3
theorem i_seq {pins : List Nat} {t : PT (List α)} (h : SG c e (rP c.st0.length pins en) t) : SG c (iSeq e) (rI c.st0.length pins en) t := fun env st hc Q X ht =>
  OkG.bind (h env st hc _ X ht) fun w s x k1 h1 hx => by
    obtain ⟨I, e1, r1⟩ := itSeq_rP h1
    rw [e1]; exact ⟨.refl k1.pool, x, r1, hx⟩
def rangeT (lo hi : Int) : List Int := (List.range (hi - lo).toNat).map fun k : Nat => lo + (k : Int)
theorem i_range1 {t : PT Int} (h : SG c a (rV nI) t) : SG c (iRange [a]) (rI c.st0.length [] nI) (bindT t fun j => grdT (inR j) (rangeT 0 j)) := fun env st hc Q X ht => by
  have := OkG.bind (r2 := rI c.st0.length [] nI) (Q := Q) (f := fun w s => itRange [w] s) (h env st hc _ X ht) fun w s x k1 h1 hx => by
    have h1 : w = .int x := h1
    subst h1
    simp only [itRange, if_pos hx.1]
    exact ⟨.refl k1.pool, rangeT 0 x, ⟨by simp [rangeT, upTo, nI], fun n h => absurd h (by simp), (hc.keeps k1).ge, fun _ _ => trivial⟩, hx.2⟩
  simp only [iRange, eArgs]
  revert this
  cases a env st <;> exact fun h => h
theorem i_range2 {t u : PT Int} (h : SG c a (rV nI) t) (k : SG c b (rV nI) u) : SG c (iRange [a, b]) (rI c.st0.length [] nI) (bindT t fun i => bindT u fun j => grdT (inR i ∧ inR j) (rangeT i j)) := fun env st hc Q X ht => by
  have := OkG.bind (r2 := rI c.st0.length [] nI) (Q := Q) (f := fun w s => (b env s).bind fun v s => itRange [w, v] s) (h env st hc _ X ht) fun w s x k1 h1 hx => OkG.bind (k env s (hc.keeps k1) _ X hx) fun v s2 y k2 h2 hy => by
    have h1 : w = .int x := h1
    have h2 : v = .int y := h2
    subst h1; subst h2
    simp only [itRange, if_pos hy.1]
    exact ⟨.refl k2.pool, rangeT x y, ⟨by simp [rangeT, upTo, nI], fun n h => absurd h (by simp), ((hc.keeps k1).keeps k2).ge, fun _ _ => trivial⟩, hy.2⟩
  simp only [iRange, eArgs]
  revert this
  cases e1 : a env st with
  | ok w s => simp only [bind_ok]; cases b env s <;> exact fun h => h
  | exc x s => exact fun h => h
  | stuck => exact fun h => h
def enumT {α : Type} (xs : List α) : List (Int × α) := xs.zipIdx.map fun p => ((p.2 : Int), p.1)
theorem i_enum {pins : List Nat} {t : PT (List α)} (h : SG c e (rP c.st0.length pins en) t) : SG c (iEnum e) (rI c.st0.length pins (nT (tC nI (t1 en)))) (bindT t fun x => pureT (enumT x)) := fun env st hc Q X ht =>
  OkG.bind (h env st hc _ X ht) fun w s x k1 h1 hx => by
    obtain ⟨I, e1, ⟨r1, r2, r3, r4⟩⟩ := itSeq_rP h1
    rw [e1]
    exact ⟨.refl k1.pool, enumT x, ⟨by simp [r1, enumT, enumFrom_map, nT, tC, t1, nI, Function.comp_def], r2, r3, r4⟩, hx⟩
theorem rP_more {l0 : Nat} {p q : List Nat} {s : Store} {w : W} {xs : List α} (h : (rP l0 p en).rel s w xs) (hq : ∀ n ∈ q, n < s.length) : (rP l0 (p ++ q) en).rel s w xs := by
  obtain ⟨h0, h1, h2⟩ := h
  refine ⟨h0, ?_, fun n hn => (List.mem_append.1 hn).elim (h2 n) (hq n)⟩
  rcases h1 with h1 | h1 | ⟨n, e1, q1, q2, q3⟩
  · exact .inl h1
  · exact .inr (.inl h1)
  · exact .inr (.inr ⟨n, e1, q1, q2.imp id fun h => List.mem_append.2 (.inl h), q3⟩)
theorem i_zip {en2 : β → W} {p1 p2 : List Nat} {t : PT (List α)} {u : PT (List β)} (h : SG c a (rP c.st0.length p1 en) t) (k : SG c b (rP c.st0.length p2 en2) u) : SG c (iZip a b) (rI c.st0.length (p1 ++ p2) (nT (tC en (t1 en2)))) (bindT t fun x => bindT u fun y => pureT (x.zip y)) := fun env st hc Q X ht =>
  OkG.bind (h env st hc _ X ht) fun w s x k1 h1 hx => OkG.bind (k env s (hc.keeps k1) _ X hx) fun w2 s2 y k2 h2 hy => by
    have h1 := (rP c.st0.length p1 en).stab k2 h1
    obtain ⟨I, e1, ⟨r1, r2, r3, r4⟩⟩ := itSeq_rP h1
    obtain ⟨J, f1, ⟨g1, g2, g3, g4⟩⟩ := itSeq_rP h2
    simp only [e1, f1, bind_ok]
    refine ⟨.refl k2.pool, x.zip y, ⟨?_, fun n hn => (List.mem_append.1 hn).elim (r2 n) (g2 n), r3, fun s' q => ⟨r4 s' fun i h0 hi => q i h0 (hi.imp id fun h => List.mem_append.2 (.inl h)), g4 s' fun i h0 hi => q i h0 (hi.imp id fun h => List.mem_append.2 (.inr h))⟩⟩, hy⟩
    rw [r1, g1, zipW_map]
    simp [nT, tC, t1]
end M

-- T3
set_option autoImplicit false
set_option linter.all false
namespace M
variable {ω υ α β γ δ σ ν κ : Type} {c d : Ctx} {e a b : IE} {es : List IE} {en : α → W}
/-! patterns -/
def Cov (pat env : Env) : Prop := env.length = pat.length ∧ ∀ (i : Nat) (w : W), pat[i]? = some (some w) → env[i]? = some (some w)
theorem Cx.covv {env : Env} {st : Store} (h : Cx c env st) : Cov c.pat env := ⟨h.len, h.cov⟩
theorem Cx.pat {env e2 : Env} {p2 : Env} {st : Store} (h : Cx c env st) (k : Cov p2 e2) : Cx { c with pat := p2 } e2 st := ⟨k.2, k.1, h.keep, h.p0, h.nd, h.nge, h.lc, h.at_⟩
theorem Cov.set {pat env : Env} (h : Cov pat env) (i : Nat) (w : Option W) : Cov (pat.set i w) (env.set i w) := by
  refine ⟨by simp [h.1], fun j u q => ?_⟩
  by_cases hij : i = j
  · subst hij
    have hl := (List.getElem?_eq_some_iff.mp q).1
    simp at hl
    rw [List.getElem?_set_self (by simpa using hl)] at q
    rw [List.getElem?_set_self (by rw [h.1]; exact hl)]; exact q
  · rw [List.getElem?_set_ne hij] at q ⊢; exact h.2 j u q
theorem Cov.wipe {pat env : Env} (h : Cov pat env) (l : List Nat) : Cov (wipeE pat l) (wipeE env l) := by
  induction l generalizing pat env with
  | nil => exact h
  | cons i l ih => exact ih (h.set i none)
inductive WkP : Env → Env → Prop
  | nil : WkP [] []
  | n {a b : Env} {x : Option W} : WkP a b → WkP (x :: a) (none :: b)
  | s {a b : Env} {x : Option W} : WkP a b → WkP (x :: a) (x :: b)
theorem WkP.cov {p q env : Env} (h : WkP p q) (k : Cov p env) : Cov q env := by
  induction h generalizing env with
  | nil => exact k
  | n h ih =>
    obtain ⟨l, k⟩ := k
    cases env with
    | nil => simp at l
    | cons y env =>
      have := ih (env := env) ⟨by simpa using l, fun i w q => by have := k (i + 1) w (by simpa using q); simpa using this⟩
      refine ⟨by simpa using this.1, fun i w q => ?_⟩
      cases i with
      | zero => simp at q
      | succ i => have := this.2 i w (by simpa using q); simpa using this
  | s h ih =>
    obtain ⟨l, k⟩ := k
    cases env with
    | nil => simp at l
    | cons y env =>
      have := ih (env := env) ⟨by simpa using l, fun i w q => by have := k (i + 1) w (by simpa using q); simpa using this⟩
      refine ⟨by simpa using this.1, fun i w q => ?_⟩
      cases i with
      | zero => exact k 0 w q
      | succ i => have := this.2 i w (by simpa using q); simpa using this
inductive WkN (ns : List Nat) (cs : List Cell) : List Nat → List Cell → List Nat → Prop
  | nil : WkN ns cs [] [] []
  | go {ms idx : List Nat} {ds : List Cell} {n : Nat} {x : Cell} (j : Nat) (h : WkN ns cs ms ds idx) (hj : j ∉ idx) (h1 : ns[j]? = some n) (h2 : cs[j]? = some x) : WkN ns cs (n :: ms) (x :: ds) (j :: idx)
theorem WkN.sub {ns ms idx : List Nat} {cs ds : List Cell} (hn : ns.Nodup) (h : WkN ns cs ms ds idx) : ms.Nodup ∧ ms.length = ds.length ∧ (∀ n ∈ ms, ∃ j ∈ idx, ns[j]? = some n) ∧ ∀ (k n : Nat) (x : Cell), ms[k]? = some n → ds[k]? = some x → ∃ j : Nat, ns[j]? = some n ∧ cs[j]? = some x := by
  induction h with
  | nil => exact ⟨by simp, rfl, fun n h => absurd h (by simp), fun k n x h => by simp at h⟩
  | go j h hj h1 h2 ih =>
    obtain ⟨i1, i2, i3, i4⟩ := ih
    refine ⟨List.nodup_cons.2 ⟨fun hm => ?_, i1⟩, by simp [i2], fun m hm => ?_, fun k m y e1 e2 => ?_⟩
    · obtain ⟨j2, q1, q2⟩ := i3 _ hm
      have l1 := (List.getElem?_eq_some_iff.mp h1)
      have l2 := (List.getElem?_eq_some_iff.mp q2)
      have := (List.getElem_inj hn).1 (l1.2.trans l2.2.symm)
      subst this
      exact hj q1
    · rcases List.mem_cons.1 hm with rfl | hm
      · exact ⟨j, by simp, h1⟩
      · obtain ⟨j2, q1, q2⟩ := i3 _ hm
        exact ⟨j2, by simp [q1], q2⟩
    · cases k with
      | zero => simp at e1 e2; subst e1; subst e2; exact ⟨j, h1, h2⟩
      | succ k => exact i4 k m y (by simpa using e1) (by simpa using e2)
theorem wk0 {ns : List Nat} {cs : List Cell} : WkN ns cs [] [] [] := .nil
theorem wkj {ns : List Nat} {cs : List Cell} {ms idx : List Nat} {ds : List Cell} {n : Nat} {x : Cell} (j : Nat) (h : WkN ns cs ms ds idx) (hj : j ∉ idx := by decide) (h1 : ns[j]? = some n := by rfl) (h2 : cs[j]? = some x := by rfl) : WkN ns cs (n :: ms) (x :: ds) (j :: idx) := .go j h hj h1 h2
structure Wk (c d : Ctx) : Prop where
  st0 : d.st0 = c.st0
  pat : WkP c.pat d.pat
  ns : ∃ idx, WkN c.ns c.cs d.ns d.cs idx
theorem Cx.wk {env : Env} {st : Store} (h : Cx c env st) (k : Wk c d) : Cx d env st := by
  obtain ⟨k1, k2, idx, k3⟩ := k
  obtain ⟨s1, s2, s4, s3⟩ := k3.sub h.nd
  obtain ⟨l, q⟩ := k2.cov h.covv
  refine ⟨q, l, by rw [k1]; exact h.keep, by rw [k1]; exact h.p0, s1, fun n hn => ?_, s2, fun k n x e1 e2 => ?_⟩
  · rw [k1]
    obtain ⟨j, _, e⟩ := s4 n hn
    exact h.nge n (List.mem_of_getElem? e)
  · obtain ⟨j, f1, f2⟩ := s3 k n x e1 e2
    exact h.at_ j n x f1 f2
theorem wk_mk {idx : List Nat} (pat : WkP c.pat d.pat) (ns : WkN c.ns c.cs d.ns d.cs idx) (st0 : d.st0 = c.st0 := by rfl) : Wk c d := ⟨st0, pat, idx, ns⟩
/-! targets -/
def TGt (g : Tg) (en : α → W) (f : α → Env → Env) : Prop := ∀ (x : α) (pat env : Env), Cov pat env → ∃ e2, g.run (en x) env = some e2 ∧ Cov (f x pat) e2
def TGs (gs : List Tg) (l : α → List W) (f : α → Env → Env) : Prop := ∀ (x : α) (pat env : Env), Cov pat env → ∃ e2, tgAll gs (l x) env = some e2 ∧ Cov (f x pat) e2
theorem tg_n {i : Nat} : TGt (tgName i) en fun x pat => pat.set i (some (en x)) := fun x pat env h => ⟨_, rfl, h.set i _⟩
theorem tg_t {gs : List Tg} {l : α → List W} {f : α → Env → Env} (h : TGs gs l f) : TGt (tgTup gs) (nT l) f := fun x pat env k => h x pat env k
theorem tgs_1 {g : Tg} {f : α → Env → Env} (h : TGt g en f) : TGs [g] (t1 en) f := fun x pat env k => by
  obtain ⟨e2, h1, h2⟩ := h x pat env k
  exact ⟨e2, by simp [t1, h1], h2⟩
theorem tgs_C {g : Tg} {gs : List Tg} {l : β → List W} {f : α → Env → Env} {f2 : β → Env → Env} (h : TGt g en f) (k : TGs gs l f2) : TGs (g :: gs) (tC en l) fun p pat => f2 p.2 (f p.1 pat) := fun x pat env q => by
  obtain ⟨e2, h1, h2⟩ := h x.1 pat env q
  obtain ⟨e3, h3, h4⟩ := k x.2 _ e2 h2
  exact ⟨e3, by simp [tC, h1, h3], h4⟩
/-! comprehensions -/
theorem x_lc {en2 : β → W} {it : II} {g : Tg} {tst : IT} {elt : IE} {own : List Nat} {pins : List Nat} {f : α → Env → Env} {tx : PT (List α)} {tc : α → PT Bool} {te : α → PT β} (hi : SG c it (rI c.st0.length pins en) tx) (hg : TGt g en f)
    (ht : ∀ x, SG ⟨c.st0, f x (wipeE c.pat own), c.ns, c.cs⟩ tst rB (tc x)) (he : ∀ x, SG ⟨c.st0, f x (wipeE c.pat own), c.ns, c.cs⟩ elt (rV en2) (te x)) : SG c (lLC it g tst elt own) (rLs en2) (bindT tx fun xs => lcT xs tc te) := fun env st hc Q X h =>
  OkG.bind (hi env st hc _ X h) fun I s xs k1 ⟨r1, r2, r3, r4⟩ ⟨hl, hx⟩ => by
    have hc1 := hc.keeps k1
    have key : ∀ (xs : List α) (s2 : Store) (acc : List β), Keep s s2 → acc.length + xs.length ≤ lim → ∀ Q : List β → Prop, lcGoT tc te xs (fun l => Q (acc ++ l)) X → OkG s2 (rLs en2) Q X (lcGo I.guard g tst elt (wipeE env own) (xs.map en) s2 (acc.map en2)) := by
      intro xs
      induction xs with
      | nil =>
        intro s2 acc k2 hl Q q
        have gd : I.guard s2 := r4 s2 fun i h0 hi => k2.old i h0 (hi.elim (fun q => Nat.lt_of_lt_of_le q r3) (r2 i))
        simp only [List.map_nil, lcGo, if_pos gd]
        exact ⟨.refl k2.pool, acc, rfl, by have : Q (acc ++ []) := q; simpa using this⟩
      | cons x xs ih =>
        intro s2 acc k2 hl Q q
        have gd : I.guard s2 := r4 s2 fun i h0 hi => k2.old i h0 (hi.elim (fun q => Nat.lt_of_lt_of_le q r3) (r2 i))
        obtain ⟨e2, h1, h2⟩ := hg x _ _ (hc.covv.wipe own)
        have hc2 : Cx { c with pat := f x (wipeE c.pat own) } e2 s2 := (hc1.keeps k2).pat h2
        have := ht x e2 s2 hc2 _ _ q
        simp only [List.map_cons, lcGo, if_pos gd, h1]
        revert this
        cases tst e2 s2 with
        | stuck => exact fun h => h.elim
        | exc z s3 => exact fun h => h.2.1.elim
        | ok w s3 =>
          rintro ⟨k3, bb, hb, hq⟩
          have hb : w = bb := hb
          subst hb
          simp only [List.length_cons] at hl
          cases w with
          | false =>
            exact (ih s3 acc (k2.trans k3) (by omega) Q hq).keep k3
          | true =>
            have := he x e2 s3 (hc2.keeps k3) _ _ hq
            simp only
            revert this
            cases elt e2 s3 with
            | stuck => exact fun h => h.elim
            | exc z s4 => exact fun h => h.2.1.elim
            | ok y s4 =>
              rintro ⟨k4, b, hb, hq⟩
              have hb : y = en2 b := hb
              subst hb
              simp only
              rw [if_pos (by simp; omega)]
              have := ih s4 (acc ++ [b]) ((k2.trans k3).trans k4) (by simp; omega) Q (by
                have e : (fun l => Q (acc ++ [b] ++ l)) = fun l => Q (acc ++ b :: l) := by funext l; simp
                rw [e]; exact hq)
              simp only [List.map_append, List.map_cons, List.map_nil] at this
              exact (this.keep k4).keep k3
    have := key xs s [] (.refl k1.pool) (by simpa using hl) Q (by simpa using hx)
    rw [r1]
    simpa using this
/-- a part of a tuple of one length -/
theorem x_slTT {l : α → List W} {lo hi : Option Int} {plo phi : Option IE} (g : α → β) {en2 : β → W} {t : PT α} (h : SG c e (rV (nT l)) t) (hq : ∀ a, W.tup (cutW (l a) lo hi) = en2 (g a)) (h1 : ∀ env st, part plo env st = .ok lo st) (h2 : ∀ env st, part phi env st = .ok hi st) :
    SG c (eSlT e plo phi) (rV en2) (bindT t fun x => pureT (g x)) := fun env st hc Q X ht =>
  OkG.bind (h env st hc _ X ht) fun w s x k1 h3 hx => by
    have h3 : w = .tup (l x) := h3
    subst h3
    simp only [h1, h2, bind_ok]
    exact ⟨.refl k1.pool, g x, hq x, hx⟩
/-! statements -/
structure GG where
  nx : Env → Store → Prop
  brk : Env → Store → Prop
  cnt : Env → Store → Prop
  ret : W → Store → Prop
  exc : Ex → Env → Store → Prop
def GG.ok (G : GG) : RS → Prop
  | .nx e s => G.nx e s
  | .ret w s => G.ret w s
  | .brk e s => G.brk e s
  | .cnt e s => G.cnt e s
  | .exc x e s => G.exc x e s
  | .stuck => False
def SS (c : Ctx) (G : GG) (b : IS) (P : Prop) : Prop := P → ∀ env st, Cx c env st → G.ok (b env st)
def GX (c : Ctx) (G : GG) (X : Ex → Prop) : Prop := ∀ x env s, Cx c env s → X x → (∀ n, x.bd n = true) → G.exc x env s
def GR (st0 : Store) (G : GG) (en : β → W) (Q : β → Prop) : Prop := ∀ w s b, Keep st0 s → frz st0.length s w = en b → Q b → G.ret w s
variable {G : GG} {Q : β → Prop} {X : Ex → Prop} {rest body : IS} {P : Prop}
theorem ss_tail (h : SS c G (sSeq body sSkip) P) : SS c G body P := fun hp env st hc => by
  have := h hp env st hc
  simp only [sSeq, sSkip] at this
  revert this
  cases body env st <;> exact fun h => h
theorem SG.run {e : Env → Store → R ω} {r : RR ω α} {t : PT α} {K : α → Prop} (h : SG c e r t) (gx : GX c G X) {env : Env} {st : Store} (hc : Cx c env st) (hp : t K X) :
    (∃ w s x, e env st = .ok w s ∧ Keep st s ∧ Cx c env s ∧ r.rel s w x ∧ K x) ∨ ∃ z s, e env st = .exc z s ∧ G.exc z env s := by
  have := h env st hc K X hp
  revert this
  cases e env st with
  | ok w s => rintro ⟨k, x, h1, h2⟩; exact .inl ⟨w, s, x, rfl, k, hc.keeps k, h1, h2⟩
  | exc z s => rintro ⟨k, h1, h2⟩; exact .inr ⟨z, s, rfl, gx z env s (hc.keeps k) h1 h2⟩
  | stuck => exact fun h => h.elim
theorem y_set {st0 : Store} {pat : Env} {ns : List Nat} {cs : List Cell} {i : Nat} {t : PT α} {K : α → Prop} (gx : GX ⟨st0, pat, ns, cs⟩ G X) (h : SG ⟨st0, pat, ns, cs⟩ e (rV en) t) (k : ∀ x, SS ⟨st0, pat.set i (some (en x)), ns, cs⟩ G rest (K x)) : SS ⟨st0, pat, ns, cs⟩ G (sSeq (sSet i e) rest) (t K X) := fun hp env st hc => by
  rcases h.run gx hc hp with ⟨w, s, x, e1, k1, hc1, r1, hk⟩ | ⟨z, s, e1, g⟩
  · have r1 : w = en x := r1
    subst r1
    simp only [sSeq, sSet, e1]
    exact k x hk _ s (hc1.pat (hc1.covv.set i _))
  · simp only [sSeq, sSet, e1]; exact g
theorem y_setN {st0 : Store} {pat : Env} {ns : List Nat} {cs : List Cell} {i : Nat} {l : IL} {t : PT (List α)} {K : List α → Prop} (gx : GX ⟨st0, pat, ns, cs⟩ G X) (h : SG ⟨st0, pat, ns, cs⟩ l (rLs en) t) (k : ∀ x n, SS ⟨st0, pat.set i (some (.loc n)), n :: ns, .lst (x.map en) :: cs⟩ G rest (K x)) : SS ⟨st0, pat, ns, cs⟩ G (sSeq (sSet i (eNew l)) rest) (t K X) := fun hp env st hc => by
  rcases h.run gx hc hp with ⟨w, s, x, e1, k1, hc1, r1, hk⟩ | ⟨z, s, e1, g⟩
  · have r1 : w = x.map en := r1
    subst r1
    simp only [sSeq, sSet, eNew, e1, bind_ok]
    have ks : Keep s (s ++ [.lst (x.map en)]) := ⟨by
      obtain ⟨c0, t0, rfl, h0⟩ := hc1.pool
      exact ⟨c0, t0 ++ [.lst (x.map en)], rfl, h0⟩, by simp, fun i h0 hi => by rw [List.getElem?_append_left hi]⟩
    have hc2 := (hc1.keeps ks).pat (hc1.covv.set i (some (.loc s.length)))
    refine k x s.length hk _ _ ⟨hc2.cov, hc2.len, hc2.keep, hc2.p0, ?_, ?_, by simp [hc2.lc], fun k n y h1 h2 => ?_⟩
    · refine List.nodup_cons.2 ⟨fun hm => ?_, hc1.nd⟩
      obtain ⟨j, hj⟩ := List.getElem?_of_mem hm
      have hl := (List.getElem?_eq_some_iff.mp hj).1
      have hl2 : j < cs.length := by have := hc1.lc; simp only at this; rw [← this]; exact hl
      have := hc1.at_ j _ _ hj (List.getElem?_eq_getElem hl2)
      have := (List.getElem?_eq_some_iff.mp this).1
      omega
    · intro n hn
      rcases List.mem_cons.1 hn with rfl | hn
      · exact hc1.ge
      · exact hc1.nge n hn
    · cases k with
      | zero => simp at h1 h2; subst h1; subst h2; simp
      | succ k => exact hc2.at_ k n y (by simpa using h1) (by simpa using h2)
  · simp only [sSeq, sSet, eNew, e1, bind_exc]; exact g
theorem y_asg {st0 : Store} {pat : Env} {ns : List Nat} {cs : List Cell} {g : Tg} {f : α → Env → Env} {t : PT α} {K : α → Prop} (gx : GX ⟨st0, pat, ns, cs⟩ G X) (h : SG ⟨st0, pat, ns, cs⟩ e (rV en) t) (hg : TGt g en f) (k : ∀ x, SS ⟨st0, f x pat, ns, cs⟩ G rest (K x)) : SS ⟨st0, pat, ns, cs⟩ G (sSeq (sAsg g e) rest) (t K X) := fun hp env st hc => by
  rcases h.run gx hc hp with ⟨w, s, x, e1, k1, hc1, r1, hk⟩ | ⟨z, s, e1, g⟩
  · have r1 : w = en x := r1
    subst r1
    obtain ⟨e2, h1, h2⟩ := hg x _ _ hc1.covv
    simp only [sSeq, sAsg, e1, h1]
    exact k x hk _ s (hc1.pat h2)
  · simp only [sSeq, sAsg, e1]; exact g
theorem y_drop {r : RR W α} {t : PT α} {K : α → Prop} (gx : GX c G X) (h : SG c e r t) (k : ∀ x, SS c G rest (K x)) : SS c G (sSeq (sDrop e) rest) (t K X) := fun hp env st hc => by
  rcases h.run gx hc hp with ⟨w, s, x, e1, k1, hc1, r1, hk⟩ | ⟨z, s, e1, g⟩
  · simp only [sSeq, sDrop, e1]
    exact k x hk _ s hc1
  · simp only [sSeq, sDrop, e1]; exact g
theorem y_ret [he : Enc en] {Q : α → Prop} {t : PT α} (gx : GX c G X) (gr : GR c.st0 G en Q) (h : SG c e (rV en) t) : SS c G (sRet e) (t Q X) := fun hp env st hc => by
  rcases h.run gx hc hp with ⟨w, s, x, e1, k1, hc1, r1, hk⟩ | ⟨z, s, e1, g⟩
  · have r1 : w = en x := r1
    subst r1
    simp only [sRet, e1]
    exact gr _ s x hc1.keep (frz_no (he.nl x) _ _) hk
  · simp only [sRet, e1]; exact g
/-- a list of its own is handed back -/
theorem y_retM {i : Nat} (k : Nat) {n : Nat} {xs : List α} {Q : List α → Prop} (gr : GR c.st0 G (nL en) Q) (h : c.pat[i]? = some (some (.loc n)) := by rfl) (h1 : c.ns[k]? = some n := by rfl) (h2 : c.cs[k]? = some (.lst (xs.map en)) := by rfl) : SS c G (sRet (eVar i)) (Q xs) := fun hp env st hc => by
  obtain ⟨q1, q2⟩ := hc.cell h1 h2
  simp only [sRet, eVar, hc.cov i _ h]
  refine gr _ st xs hc.keep ?_ hp
  have : ¬ n < c.st0.length := Nat.not_lt.2 (hc.nge n (List.mem_of_getElem? h1))
  simp [frz, this, q2, nL]
/-- .. changed cells -/
theorem Cx.put {env : Env} {st : Store} (hc : Cx c env st) {k n : Nat} {x : Cell} (h1 : c.ns[k]? = some n) (h2 : c.cs[k]? = some x) (y : Cell) : Cx { c with cs := c.cs.set k y } env (st.set n y) := by
  obtain ⟨q1, q2⟩ := hc.cell h1 h2
  have hn := hc.nge n (List.mem_of_getElem? h1)
  have hl := (List.getElem?_eq_some_iff.mp q2).1
  refine ⟨hc.cov, hc.len, ⟨?_, ?_, fun i h0 hi => ?_⟩, hc.p0, hc.nd, hc.nge, by simp [hc.lc], fun j m z e1 e2 => ?_⟩
  · obtain ⟨c0, t0, rfl, h0⟩ := hc.pool
    cases n with
    | zero => omega
    | succ n => exact ⟨c0, t0.set n y, rfl, h0⟩
  · simp [hc.ge]
  · have hi' : i < c.st0.length := hi
    have : n ≠ i := by omega
    rw [List.getElem?_set_ne this]; exact hc.keep.old i h0 hi
  · by_cases hj : k = j
    · subst hj
      rw [h1] at e1; cases e1
      have hl2 : k < c.cs.length := (List.getElem?_eq_some_iff.mp h2).1
      have e2 : (c.cs.set k y)[k]? = some z := e2
      rw [List.getElem?_set_self hl2] at e2; cases e2
      rw [List.getElem?_set_self hl]
    · have e2 : (c.cs.set k y)[j]? = some z := e2
      rw [List.getElem?_set_ne hj] at e2
      have : n ≠ m := fun e => by
        subst e
        have l1 := (List.getElem?_eq_some_iff.mp h1)
        have l2 := (List.getElem?_eq_some_iff.mp e1)
        exact hj ((List.getElem_inj hc.nd).1 (l1.2.trans l2.2.symm))
      rw [List.getElem?_set_ne this]
      exact hc.at_ j m z e1 e2
theorem y_app {st0 : Store} {pat : Env} {ns : List Nat} {cs : List Cell} {i : Nat} (k : Nat) {n : Nat} {xs : List α} {t : PT α} {K : List α → Prop} (gx : GX ⟨st0, pat, ns, cs⟩ G X) (ha : SG ⟨st0, pat, ns, cs⟩ e (rV en) t) (kk : ∀ ys, SS ⟨st0, pat, ns, cs.set k (.lst (ys.map en))⟩ G rest (K ys))
    (h : pat[i]? = some (some (.loc n)) := by rfl) (h1 : ns[k]? = some n := by rfl) (h2 : cs[k]? = some (.lst (xs.map en)) := by rfl) : SS ⟨st0, pat, ns, cs⟩ G (sSeq (sDrop (eBm "list" mApp (eVar i) [e])) rest) (t (fun a => appT xs a K) X) := fun hp env st hc => by
  obtain ⟨q1, q2⟩ := hc.cell h1 h2
  have ty : tyM st "list" (.loc n) = true := by simp [q2]
  rcases ha.run gx hc hp with ⟨w, s, x, e1, k1, hc1, r1, hl, hk⟩ | ⟨z, s, e1, g⟩
  · have r1 : w = en x := r1
    subst r1
    obtain ⟨q3, q4⟩ := hc1.cell h1 h2
    simp only [sSeq, sDrop, eBm, eVar, hc.cov i _ h, bind_ok, ty, if_true, eArgs, e1, mApp, q4, List.length_map, if_pos hl]
    have := hc1.put h1 h2 (.lst ((xs ++ [x]).map en))
    have := kk _ hk _ _ this
    simpa using this
  · simp only [sSeq, sDrop, eBm, eVar, hc.cov i _ h, bind_ok, ty, if_true, eArgs, e1, bind_exc]; exact g
theorem y_setIx {st0 : Store} {pat : Env} {ns : List Nat} {cs : List Cell} {i : Nat} (k : Nat) {n : Nat} {xs : List α} {t : PT α} {ti : PT Int} {K : List α → Prop} (gx : GX ⟨st0, pat, ns, cs⟩ G X) (ha : SG ⟨st0, pat, ns, cs⟩ e (rV en) t) (hi : SG ⟨st0, pat, ns, cs⟩ b (rV nI) ti) (kk : ∀ ys, SS ⟨st0, pat, ns, cs.set k (.lst (ys.map en))⟩ G rest (K ys))
    (h : pat[i]? = some (some (.loc n)) := by rfl) (h1 : ns[k]? = some n := by rfl) (h2 : cs[k]? = some (.lst (xs.map en)) := by rfl) : SS ⟨st0, pat, ns, cs⟩ G (sSeq (sSetIx (eVar i) b e) rest) (t (fun a => ti (fun j => setT xs j a K) X) X) := fun hp env st hc => by
  rcases ha.run gx hc hp with ⟨w, s, x, e1, k1, hc1, r1, hk⟩ | ⟨z, s, e1, g⟩
  · have r1 : w = en x := r1
    subst r1
    rcases hi.run gx hc1 hk with ⟨w2, s2, y, e2, k2, hc2, r2, jj, hj, hk2⟩ | ⟨z, s2, e2, g⟩
    · have r2 : w2 = nI y := r2
      subst r2
      obtain ⟨q3, q4⟩ := hc2.cell h1 h2
      simp only [sSeq, sSetIx, e1, eVar, hc1.cov i _ h, e2, setIx, nI, q4, List.length_map, hj]
      have := hc2.put h1 h2 (.lst ((xs.set jj x).map en))
      have := kk _ hk2 _ _ this
      rw [List.map_set] at this
      exact this
    · simp only [sSeq, sSetIx, e1, eVar, hc1.cov i _ h, e2]; exact g
  · simp only [sSeq, sSetIx, e1]; exact g
/-! ends of blocks -/
theorem y_end {D : ν → σ → Ctx} {K : σ → Prop} {v : ν} {s : σ} (hG : G.nx = fun e st => ∃ v s, Cx (D v s) e st ∧ K s) (hw : Wk c (D v s)) : SS c G sSkip (K s) := fun hp env st hc => by
  show G.nx env st
  rw [hG]; exact ⟨v, s, hc.wk hw, hp⟩
theorem y_cnt {D : ν → σ → Ctx} {K : σ → Prop} {v : ν} {s : σ} (hG : G.cnt = fun e st => ∃ v s, Cx (D v s) e st ∧ K s) (hw : Wk c (D v s)) : SS c G sCnt (K s) := fun hp env st hc => by
  show G.cnt env st
  rw [hG]; exact ⟨v, s, hc.wk hw, hp⟩
theorem y_brk {D : ν → σ → Ctx} {K : σ → Prop} {v : ν} {s : σ} (hG : G.brk = fun e st => ∃ v s, Cx (D v s) e st ∧ K s) (hw : Wk c (D v s)) : SS c G sBrk (K s) := fun hp env st hc => by
  show G.brk env st
  rw [hG]; exact ⟨v, s, hc.wk hw, hp⟩
/-- the end of a def that hands back nothing -/
theorem y_none {en : β → W} {b : β} (gr : G.nx = fun _ s => Keep c.st0 s ∧ ∃ b, en b = .non ∧ Q b := by rfl) (hb : en b = .non := by rfl) : SS c G sSkip (Q b) := fun hp env st hc => by
  show G.nx env st
  rw [gr]; exact ⟨hc.keep, b, hb, hp⟩
theorem y_assoc {s1 s2 : IS} (h : SS c G (sSeq s1 (sSeq s2 rest)) P) : SS c G (sSeq (sSeq s1 s2) rest) P := fun hp env st hc => by
  have := h hp env st hc
  simp only [sSeq] at this ⊢
  revert this
  cases s1 env st <;> exact fun h => h
theorem y_skip (h : SS c G rest P) : SS c G (sSeq sSkip rest) P := fun hp env st hc => h hp env st hc
/-! choices -/
def GJ (G : GG) (D : ν → σ → Ctx) (K : σ → Prop) : GG := { G with nx := fun e st => ∃ v s, Cx (D v s) e st ∧ K s }
def GZ (G : GG) : GG := { G with nx := fun _ _ => False }
variable {p : IT} {A B : IS} {PA PB : Prop}
theorem y_if {tp : PT Bool} {D : ν → σ → Ctx} {K : σ → Prop} {fA fB : (σ → Prop) → Prop} (gx : GX c G X) (h : SG c p rB tp) (ha : ∀ k, SS c (GJ G D k) A (fA k)) (hb : ∀ k, SS c (GJ G D k) B (fB k)) (k : ∀ v s, SS (D v s) G rest (K s)) :
    SS c G (sSeq (sIf p A B) rest) (tp (fun x => jn K fun k => if x = true then fA k else fB k) X) := fun hp env st hc => by
  have fin : ∀ r : RS, (GJ G D K).ok r → G.ok (match r with | .nx e s => rest e s | r => r) := by
    intro r
    cases r <;> try exact fun h => h
    rintro ⟨v, s, h1, h2⟩
    exact k v s h2 _ _ h1
  rcases h.run gx hc hp with ⟨w, s, x, e1, k1, hc1, r1, hk⟩ | ⟨z, s, e1, g⟩
  · have r1 : w = x := r1
    subst r1
    simp only [sSeq, sIf, e1]
    cases w with
    | true => exact fin _ (ha K hk env s hc1)
    | false => exact fin _ (hb K hk env s hc1)
  · simp only [sSeq, sIf, e1]; exact g
theorem y_ifT {tp : PT Bool} (gx : GX c G X) (h : SG c p rB tp) (ha : SS c G A PA) (hb : SS c G B PB) : SS c G (sIf p A B) (tp (fun x => if x = true then PA else PB) X) := fun hp env st hc => by
  rcases h.run gx hc hp with ⟨w, s, x, e1, k1, hc1, r1, hk⟩ | ⟨z, s, e1, g⟩
  · have r1 : w = x := r1
    subst r1
    simp only [sIf, e1]
    cases w with
    | true => exact ha hk env s hc1
    | false => exact hb hk env s hc1
  · simp only [sIf, e1]; exact g
theorem GZ.fin (r : RS) : (GZ G).ok r → G.ok (match r with | .nx e s => rest e s | r => r) := by
  cases r <;> try exact fun h => h
  exact fun h => h.elim
/-- the first branch never goes on -/
theorem y_ifA {tp : PT Bool} (gx : GX c G X) (h : SG c p rB tp) (ha : SS c (GZ G) A PA) (hb : SS c G (sSeq B rest) PB) : SS c G (sSeq (sIf p A B) rest) (tp (fun x => if x = true then PA else PB) X) := fun hp env st hc => by
  rcases h.run gx hc hp with ⟨w, s, x, e1, k1, hc1, r1, hk⟩ | ⟨z, s, e1, g⟩
  · have r1 : w = x := r1
    subst r1
    simp only [sSeq, sIf, e1]
    cases w with
    | true => exact GZ.fin _ (ha hk env s hc1)
    | false => exact hb hk env s hc1
  · simp only [sSeq, sIf, e1]; exact g
theorem y_ifB {tp : PT Bool} (gx : GX c G X) (h : SG c p rB tp) (ha : SS c G (sSeq A rest) PA) (hb : SS c (GZ G) B PB) : SS c G (sSeq (sIf p A B) rest) (tp (fun x => if x = true then PA else PB) X) := fun hp env st hc => by
  rcases h.run gx hc hp with ⟨w, s, x, e1, k1, hc1, r1, hk⟩ | ⟨z, s, e1, g⟩
  · have r1 : w = x := r1
    subst r1
    simp only [sSeq, sIf, e1]
    cases w with
    | true => exact ha hk env s hc1
    | false => exact GZ.fin _ (hb hk env s hc1)
  · simp only [sSeq, sIf, e1]; exact g
/-! loops -/
def GL (G : GG) (D : ν → σ → Ctx) (nx bk : σ → Prop) : GG := { G with nx := fun e st => ∃ v s, Cx (D v s) e st ∧ nx s, cnt := fun e st => ∃ v s, Cx (D v s) e st ∧ nx s, brk := fun e st => ∃ v s, Cx (D v s) e st ∧ bk s }
def PinOk (pins : List Nat) (c d : Ctx) : Prop := ∀ n ∈ pins, ∃ (k j : Nat) (x : Cell), c.ns[k]? = some n ∧ c.cs[k]? = some x ∧ d.ns[j]? = some n ∧ d.cs[j]? = some x
theorem pn_nil : PinOk [] c d := fun n h => absurd h (by simp)
theorem pn_cons {pins : List Nat} {n : Nat} {x : Cell} (k j : Nat) (h : PinOk pins c d) (h1 : c.ns[k]? = some n := by rfl) (h2 : c.cs[k]? = some x := by rfl) (h3 : d.ns[j]? = some n := by rfl) (h4 : d.cs[j]? = some x := by rfl) : PinOk (n :: pins) c d := fun m hm => by
  rcases List.mem_cons.1 hm with rfl | hm
  · exact ⟨k, j, x, h1, h2, h3, h4⟩
  · exact h m hm
theorem y_for {it : II} {g : Tg} {f : α → Env → Env} {pins : List Nat} {D : ν → σ → Ctx} {t : PT (List α)} {F : α → σ → (σ → Prop) → (σ → Prop) → Prop} {K : σ → Prop} (gx : GX c G X) (hi : SG c it (rI c.st0.length pins en) t) (hg : TGt g en f) {v0 : ν} {s0 : σ} (hw : Wk c (D v0 s0))
    (hp : ∀ v s, PinOk pins c (D v s)) (hd : ∀ v s, (D v s).st0 = c.st0) (hb : ∀ v s x nx bk, SS ⟨(D v s).st0, f x (D v s).pat, (D v s).ns, (D v s).cs⟩ (GL G D nx bk) body (F x s nx bk)) (k : ∀ v s, SS (D v s) G rest (K s)) :
    SS c G (sSeq (sFor it g body) rest) (t (fun xs => forT xs s0 F K) X) := fun hpp env st hc => by
  rcases hi.run gx hc hpp with ⟨I, s, xs, e1, k1, hc1, ⟨r1, r2, r3, r4⟩, hk⟩ | ⟨z, s, e1, g⟩
  · have gd : ∀ v σ env' st', Cx (D v σ) env' st' → I.guard st' := fun v σ env' st' h => r4 st' fun i h0 hi => by
      rcases hi with hi | hi
      · have a := h.keep.old i h0 (by rw [hd]; exact hi)
        have b := hc1.keep.old i h0 hi
        rw [a, b, hd]
      · obtain ⟨k, j, x, p1, p2, p3, p4⟩ := hp v σ i hi
        rw [h.at_ j i x p3 p4, hc1.at_ k i x p1 p2]
    have key : ∀ (xs : List α) v σ env' st', Cx (D v σ) env' st' → forT xs σ F K → (GJ G D K).ok (forGo I.guard g body (xs.map en) env' st') := by
      intro xs
      induction xs with
      | nil => intro v σ env' st' h q; simp only [List.map_nil, forGo, if_pos (gd v σ env' st' h)]; exact ⟨v, σ, h, q⟩
      | cons x xs ih =>
        intro v σ env' st' h q
        obtain ⟨e2, h1, h2⟩ := hg x _ _ h.covv
        have := hb v σ x _ _ q e2 st' (h.pat h2)
        simp only [List.map_cons, forGo, if_pos (gd v σ env' st' h), h1]
        revert this
        cases body e2 st' with
        | nx e3 s3 => rintro ⟨v, s, a, b⟩; exact ih v s e3 s3 a b
        | cnt e3 s3 => rintro ⟨v, s, a, b⟩; exact ih v s e3 s3 a b
        | brk e3 s3 => exact fun h => h
        | ret w s3 => exact fun h => h
        | exc z e3 s3 => exact fun h => h
        | stuck => exact fun h => h
    have := key xs v0 s0 env s (hc1.wk hw) hk
    simp only [sSeq, sFor, e1, r1]
    revert this
    cases forGo I.guard g body (xs.map en) env s with
    | nx e3 s3 => rintro ⟨v, s, a, b⟩; exact k v s b e3 s3 a
    | _ => exact fun h => h
  · simp only [sSeq, sFor, e1]; exact g
theorem y_while {D : ν → σ → Ctx} {F : σ → (σ → Prop) → (σ → Prop) → Prop} {K : σ → Prop} {tp : σ → PT Bool} (gx : ∀ v s, GX (D v s) G X) {v0 : ν} {s0 : σ} (hw : Wk c (D v0 s0)) (hd : ∀ v s, (D v s).st0 = c.st0)
    (ht : ∀ v s, SG (D v s) p rB (tp s)) (hb : ∀ v s nx bk, SS (D v s) (GL G D nx bk) body (F s nx bk)) (k : ∀ v s, SS (D v s) G rest (K s)) :
    SS c G (sSeq (sWhile p body) rest) (whT s0 (fun s nx bk => tp s (fun x => if x = true then F s nx bk else bk s) X) K) := fun hpp env st hc => by
  obtain ⟨n, hn⟩ := hpp
  have key : ∀ n v σ env' st', Cx (D v σ) env' st' → whN (fun s nx bk => tp s (fun x => if x = true then F s nx bk else bk s) X) K n σ → (GJ G D K).ok (whileN p body n env' st') := by
    intro n
    induction n with
    | zero => intro v σ env' st' h q; exact q.elim
    | succ n ih =>
      intro v σ env' st' h q
      rcases (ht v σ).run (gx v σ) h q with ⟨w, s, x, e1, k1, hc1, r1, hk⟩ | ⟨z, s, e1, g⟩
      · have r1 : w = x := r1
        subst r1
        simp only [whileN, e1]
        cases w with
        | false => exact ⟨v, σ, hc1, hk⟩
        | true =>
          have := hb v σ _ _ hk env' s hc1
          simp only
          revert this
          cases body env' s with
          | nx e3 s3 => rintro ⟨v, s, a, b⟩; exact ih v s e3 s3 a b
          | cnt e3 s3 => rintro ⟨v, s, a, b⟩; exact ih v s e3 s3 a b
          | brk e3 s3 => exact fun h => h
          | ret w s3 => exact fun h => h
          | exc z e3 s3 => exact fun h => h
          | stuck => exact fun h => h
      · simp only [whileN, e1]; exact g
  have h1 := key n v0 s0 env st (hc.wk hw) hn
  have ex : ∃ n, whileN p body n env st ≠ .stuck := ⟨n, fun e => by rw [e] at h1; exact h1⟩
  have mono : ∀ n m env st, whileN p body n env st ≠ .stuck → whileN p body (n + m) env st = whileN p body n env st := by
    intro n m
    induction n with
    | zero => intro env st h; exact absurd rfl h
    | succ n ih =>
      intro env st h
      rw [Nat.succ_add]
      simp only [whileN] at h ⊢
      cases e1 : p env st with
      | stuck => rfl
      | exc z s => rfl
      | ok w s =>
        rw [e1] at h
        cases w with
        | false => rfl
        | true =>
          simp only at h ⊢
          cases e2 : body env s <;> rw [e2] at h <;> simp only at h ⊢ <;> exact ih _ _ h
  have e : sWhile p body env st = whileN p body n env st := by
    simp only [sWhile, dif_pos ex]
    have hn2 : whileN p body n env st ≠ .stuck := fun e => by rw [e] at h1; exact h1
    have a := mono n ex.choose env st hn2
    have b := mono ex.choose n env st ex.choose_spec
    rw [← b, Nat.add_comm, a]
  simp only [sSeq, e]
  revert h1
  cases whileN p body n env st with
  | nx e3 s3 => rintro ⟨v, s, a, b⟩; exact k v s b e3 s3 a
  | _ => exact fun h => h
/-! exceptions -/
theorem y_raise {cn : String} {r : RR W α} {t : PT α} (gx : GX c G X) (h : SG c e r t) : SS c G (sRaise cn e) (t (fun _ => X ⟨cn, none⟩) X) := fun hp env st hc => by
  rcases h.run gx hc hp with ⟨w, s, x, e1, k1, hc1, r1, hk⟩ | ⟨z, s, e1, g⟩
  · simp only [sRaise, e1]; exact gx _ env s hc1 hk (fun n => rfl)
  · simp only [sRaise, e1]; exact g
theorem GX.j {D : ν → σ → Ctx} {k : σ → Prop} (h : GX c G X) : GX c (GJ G D k) X := h
theorem GX.l {D : ν → σ → Ctx} {k m : σ → Prop} (h : GX c G X) : GX c (GL G D k m) X := h
theorem GX.z (h : GX c G X) : GX c (GZ G) X := h
theorem GR.j {st0 : Store} {Q : α → Prop} {D : ν → σ → Ctx} {k : σ → Prop} (h : GR st0 G en Q) : GR st0 (GJ G D k) en Q := h
theorem GR.l {st0 : Store} {Q : α → Prop} {D : ν → σ → Ctx} {k m : σ → Prop} (h : GR st0 G en Q) : GR st0 (GL G D k m) en Q := h
theorem GR.z {st0 : Store} {Q : α → Prop} (h : GR st0 G en Q) : GR st0 (GZ G) en Q := h
def GT (G : GG) (subs : List String) (Dh : Ctx) (PH : Prop) : GG := { G with exc := fun x e s => if subs.contains x.c = true then Cx Dh e s ∧ PH else G.exc x e s }
def GH (G : GG) : GG := { G with exc := fun _ _ _ => False }
theorem GH.x : GX c (GH G) (fun _ => False) := fun _ _ _ _ h _ => h
theorem GR.t {st0 : Store} {Q : α → Prop} {subs : List String} {Dh : Ctx} {PH : Prop} (h : GR st0 G en Q) : GR st0 (GT G subs Dh PH) en Q := h
theorem GR.h {st0 : Store} {Q : α → Prop} (h : GR st0 G en Q) : GR st0 (GH G) en Q := h
def hnd (subs : List String) (PH : Prop) (X : Ex → Prop) : Ex → Prop := fun x => if subs.contains x.c = true then PH else X x
theorem GX.t {subs : List String} {Dh : Ctx} {PH : Prop} (h : GX c G X) (hw : Wk c Dh) : GX c (GT G subs Dh PH) (hnd subs PH X) := fun x env s hc hx hb => by
  unfold hnd at hx
  simp only [GT]
  split
  · rename_i q; rw [if_pos q] at hx; exact ⟨hc.wk hw, hx⟩
  · rename_i q; rw [if_neg q] at hx; exact h x env s hc hx hb
def trT (subs : List String) (PH : Prop) (fB : (Ex → Prop) → Prop) (X : Ex → Prop) : Prop := fB (hnd subs PH X)
theorem y_try {D : ν → σ → Ctx} {Dh : Ctx} {subs : List String} {β' ς : IS} {fB : (σ → Prop) → (Ex → Prop) → Prop} {fH : (σ → Prop) → Prop} {K : σ → Prop} (hb : ∀ k, SS c (GT (GJ G D k) subs Dh (fH k)) β' (fB k (hnd subs (fH k) X)))
    (hh : ∀ k, SS Dh (GH (GJ G D k)) ς (fH k)) (k : ∀ v s, SS (D v s) G rest (K s)) : SS c G (sSeq (sTry subs β' ς) rest) (jn K fun k => trT subs (fH k) (fB k) X) := fun hp env st hc => by
  have h1 := hb K hp env st hc
  have fin : ∀ r : RS, (GJ G D K).ok r → G.ok (match r with | .nx e s => rest e s | r => r) := by
    intro r
    cases r <;> try exact fun h => h
    rintro ⟨v, s, h1, h2⟩
    exact k v s h2 _ _ h1
  simp only [sSeq, sTry]
  cases e1 : β' env st with
  | exc x e s =>
    rw [e1] at h1
    have h1 : if subs.contains x.c = true then Cx Dh e s ∧ fH K else G.exc x e s := h1
    by_cases q : subs.contains x.c = true
    · rw [if_pos q] at h1
      simp only [if_pos q]
      have h2 := hh K h1.2 e s h1.1
      cases e2 : ς e s with
      | exc y e3 s3 => rw [e2] at h2; exact h2.elim
      | nx e3 s3 => rw [e2] at h2; exact fin (.nx e3 s3) h2
      | brk e3 s3 => rw [e2] at h2; exact h2
      | cnt e3 s3 => rw [e2] at h2; exact h2
      | ret e3 s3 => rw [e2] at h2; exact h2
      | stuck => rw [e2] at h2; exact h2
    · rw [if_neg q] at h1
      simp only [if_neg q]
      exact h1
  | nx e s => rw [e1] at h1; exact fin (.nx e s) h1
  | brk e s => rw [e1] at h1; exact h1
  | cnt e s => rw [e1] at h1; exact h1
  | ret e s => rw [e1] at h1; exact h1
  | stuck => rw [e1] at h1; exact h1
/-! defs -/
def FT (f : Fn) (r : RR (List W) α) (r2 : RR W β) (p : α → PT β) : Prop := ∀ st ws a, PoolSt st → r.rel st ws a → ∀ Q X, p a Q X → OkG st r2 Q X (f ws st)
theorem x_call {f : Fn} {r : RR (List W) α} {r2 : RR W β} {pf : α → PT β} {ta : PT α} (hf : FT f r r2 pf) (ha : SG c (eArgs es) r ta) : SG c (eCall f es) r2 (bindT ta fun x => pf x) := fun env st hc Q X ht =>
  OkG.bind (ha env st hc _ X ht) fun w s x k1 h1 hx => hf s w x k1.pool h1 Q X hx
def GF (st0 : Store) (en : β → W) (Q : β → Prop) (X : Ex → Prop) : GG := ⟨fun _ s => Keep st0 s ∧ ∃ b, en b = .non ∧ Q b, fun _ _ => False, fun _ _ => False, fun w s => Keep st0 s ∧ ∃ b, frz st0.length s w = en b ∧ Q b, fun x _ s => Keep st0 s ∧ X x ∧ ∀ n, x.bd n = true⟩
theorem GF.x {en : β → W} : GX c (GF c.st0 en Q X) X := fun x _ s k h1 h2 => ⟨k.keep, h1, h2⟩
theorem GF.r {st0 : Store} {en : β → W} : GR st0 (GF st0 en Q X) en Q := fun w s b k h1 h2 => ⟨k, b, h1, h2⟩
theorem Keep.old_ {st0 s : Store} (h0 : PoolSt st0) (k : Keep st0 s) : OldOk st0 s := ⟨k.ge, fun i hi => by
  cases i with
  | zero =>
    right
    obtain ⟨c, t, rfl, hp⟩ := k.pool
    obtain ⟨c0, t0, rfl, hp0⟩ := h0
    exact ⟨c, c0, rfl, hp.bd _, hp.ng, rfl, hp0.ng⟩
  | succ i => exact .inl (k.old _ (by omega) hi)⟩
theorem Keep.take {st0 s : Store} (h0 : PoolSt st0) (k : Keep st0 s) : Keep st0 (s.take st0.length) := ⟨by
    obtain ⟨c, t, rfl, hp⟩ := k.pool
    have := h0.pos
    obtain ⟨m, hm⟩ : ∃ m, st0.length = m + 1 := ⟨st0.length - 1, by omega⟩
    rw [hm]
    exact ⟨c, t.take m, rfl, hp⟩, by rw [List.length_take]; have := k.ge; omega, fun i h hi => by rw [List.getElem?_take_of_lt hi]; exact k.old i h hi⟩
theorem ft_pur {n : Nat} {r : RR (List W) α} {en : β → W} [he : Enc en] {pf : α → PT β} (h : ∀ st0 ws a, PoolSt st0 → r.rel st0 ws a → ∀ Q X, SS ⟨st0, ws.map some ++ List.replicate (n - ws.length) none, [], []⟩ (GF st0 en Q X) body (pf a Q X)) : FT (runDef n .pur body) r (rV en) pf := fun st ws a h0 hr Q X hp => by
  have := h st ws a h0 hr Q X hp _ st ⟨fun i w q => q, rfl, .refl h0, h0, by simp, fun n hn => absurd hn (by simp), rfl, fun k n x q => by simp at q⟩
  simp only [runDef]
  revert this
  have fin0 : ∀ (w : W) (s : Store) (b : β), Keep st s → frz st.length s w = en b → Q b → OkG st (rV en) Q X (fin .pur st w s) := fun w s b k e q => by
    have hb : (frz st.length s w).bd st.length = true := by rw [e]; exact he.bd b _
    simp only [fin]
    rw [if_pos ⟨hb, k.old_ h0⟩]
    exact ⟨k.take h0, b, e, q⟩
  cases body (ws.map some ++ List.replicate (n - ws.length) none) st with
  | nx e s => rintro ⟨k, b, e, q⟩; exact fin0 _ _ b k (by simp [e]) q
  | ret w s => rintro ⟨k, b, e, q⟩; exact fin0 _ _ b k e q
  | brk e s => exact fun h => h
  | cnt e s => exact fun h => h
  | exc x e s =>
    rintro ⟨k, q1, q2⟩
    simp only [finX]
    rw [if_pos ⟨q2 _, k.old_ h0⟩]
    exact ⟨k.take h0, q1, q2⟩
  | stuck => exact fun h => h
end M

-- T4
set_option autoImplicit false
set_option linter.all false
namespace M
variable {α β γ σ : Type}
/-! what makes the printed predicates plain -/
@[simp] theorem pureT_eq (a : α) (Q : α → Prop) (X : Ex → Prop) : pureT a Q X = Q a := rfl
@[simp] theorem bindT_eq (t : PT α) (f : α → PT β) (Q : β → Prop) (X : Ex → Prop) : bindT t f Q X = t (fun a => f a Q X) X := rfl
@[simp] theorem grdT_eq (c : Prop) (a : α) (Q : α → Prop) (X : Ex → Prop) : grdT c a Q X = (c ∧ Q a) := rfl
@[simp] theorem iteT_eq (c : Bool) (a b : PT α) (Q : α → Prop) (X : Ex → Prop) : iteT c a b Q X = (if c = true then a Q X else b Q X) := rfl
@[simp] theorem pure_bindT (a : α) (f : α → PT β) : bindT (pureT a) f = f a := rfl
@[simp] theorem bind_bindT (t : PT α) (f : α → PT β) (g : β → PT γ) : bindT (bindT t f) g = bindT t fun a => bindT (f a) g := rfl
@[simp] theorem grd_bindT (c : Prop) (a : α) (f : α → PT β) : bindT (grdT c a) f = fun Q X => c ∧ f a Q X := rfl
@[simp] theorem optT_some (a : α) (Q : α → Prop) (X : Ex → Prop) : optT (some a) Q X = Q a := by simp [optT]
@[simp] theorem jn_eq {κ : Type} (k : κ) (f : κ → Prop) : jn k f = f k := rfl
@[simp] theorem appT_eq (xs : List α) (a : α) (K : List α → Prop) : appT xs a K = (xs.length < lim ∧ K (xs ++ [a])) := rfl
theorem ixT_of {xs : List α} {i : Int} {Q : α → Prop} {X : Ex → Prop} (j : Nat) (hj : j < xs.length) (hi : i = j) (h : Q xs[j]) : ixT xs i Q X := by
  subst hi
  exact ⟨j, xs[j], ixW_nat _ _ hj, List.getElem?_eq_getElem hj, h⟩
theorem ixT_nat (xs : List α) (j : Nat) (hj : j < xs.length) (Q : α → Prop) (X : Ex → Prop) : ixT xs (j : Int) Q X = Q xs[j] := by
  apply propext
  constructor
  · rintro ⟨k, a, e1, e2, h⟩
    rw [ixW_nat _ _ hj] at e1; cases e1
    rw [List.getElem?_eq_getElem hj] at e2; cases e2
    exact h
  · exact fun h => ⟨j, xs[j], ixW_nat _ _ hj, List.getElem?_eq_getElem hj, h⟩
/-! comprehensions -/
@[simp] theorem filter_yes (l : List α) : l.filter (fun _ => true) = l := List.filter_eq_self.2 (by simp)
theorem lcGoT_pure (p : α → Bool) (f : α → β) : ∀ (xs : List α) (Q : List β → Prop) (X : Ex → Prop), lcGoT (fun x => pureT (p x)) (fun x => pureT (f x)) xs Q X = Q ((xs.filter p).map f)
  | [], Q, X => rfl
  | x :: xs, Q, X => by
    simp only [lcGoT, pureT_eq]
    cases h : p x with
    | true => simp [h, lcGoT_pure p f xs]
    | false => simp [h, lcGoT_pure p f xs]
@[simp] theorem lcT_pure (xs : List α) (p : α → Bool) (f : α → β) (Q : List β → Prop) (X : Ex → Prop) : lcT xs (fun x => pureT (p x)) (fun x => pureT (f x)) Q X = (xs.length ≤ lim ∧ Q ((xs.filter p).map f)) := by
  simp only [lcT, lcGoT_pure]
@[simp] theorem lcT_map (xs : List α) (f : α → β) (Q : List β → Prop) (X : Ex → Prop) : lcT xs (fun _ => pureT true) (fun x => pureT (f x)) Q X = (xs.length ≤ lim ∧ Q (xs.map f)) := by
  rw [lcT_pure, List.filter_eq_self.2 (by simp)]
@[simp] theorem lcT_id (xs : List α) (Q : List α → Prop) (X : Ex → Prop) : lcT xs (fun _ => pureT true) (fun x => pureT x) Q X = (xs.length ≤ lim ∧ Q xs) := by
  have := lcT_map xs (fun x => x) Q X
  simpa using this
@[simp] theorem lcT_id' (xs : List α) (Q : List α → Prop) (X : Ex → Prop) : lcT xs (fun _ => pureT true) pureT Q X = (xs.length ≤ lim ∧ Q xs) := lcT_id xs Q X
/-- the items may fail to be there only for items that are not walked -/
theorem lcGoT_of {c : α → PT Bool} {e : α → PT β} (p : α → Bool) (f : α → β) {X : Ex → Prop} : ∀ (xs : List α) (Q : List β → Prop), (∀ x ∈ xs, (∀ Q : Bool → Prop, Q (p x) → c x Q (fun _ => False)) ∧ (p x = true → ∀ Q : β → Prop, Q (f x) → e x Q (fun _ => False))) → Q ((xs.filter p).map f) → lcGoT c e xs Q X
  | [], Q, _, h => h
  | x :: xs, Q, hs, h => by
    obtain ⟨h1, h2⟩ := hs x (by simp)
    have ih := lcGoT_of (c := c) (e := e) (X := X) p f xs
    have hs' : ∀ y ∈ xs, _ := fun y hy => hs y (List.mem_cons_of_mem _ hy)
    refine h1 _ ?_
    cases hp : p x with
    | true =>
      simp only [if_true]
      refine h2 hp _ (ih _ hs' ?_)
      simpa [hp] using h
    | false =>
      simp only [Bool.false_eq_true, if_false]
      refine ih _ hs' ?_
      simpa [hp] using h
theorem lcT_of {c : α → PT Bool} {e : α → PT β} (p : α → Bool) (f : α → β) {X : Ex → Prop} {xs : List α} {Q : List β → Prop} (hl : xs.length ≤ lim) (h1 : ∀ x ∈ xs, (∀ Q : Bool → Prop, Q (p x) → c x Q (fun _ => False))) (h2 : ∀ x ∈ xs, (p x = true → ∀ Q : β → Prop, Q (f x) → e x Q (fun _ => False))) (h : Q ((xs.filter p).map f)) : lcT xs c e Q X :=
  ⟨hl, lcGoT_of p f xs Q (fun x hx => ⟨h1 x hx, h2 x hx⟩) h⟩
theorem lcT_map_of {e : α → PT β} (f : α → β) {X : Ex → Prop} {xs : List α} {Q : List β → Prop} (hl : xs.length ≤ lim) (h2 : ∀ x ∈ xs, (∀ Q : β → Prop, Q (f x) → e x Q (fun _ => False))) (h : Q (xs.map f)) : lcT xs (fun _ => pureT true) e Q X :=
  lcT_of (fun _ => true) f hl (fun x hx Q q => q) (fun x hx _ => h2 x hx) (by rw [List.filter_eq_self.2 (by simp)]; exact h)
/-- comprehensions that draw: the items are as Pr says -/
theorem lcT_rel {e : α → PT β} (Pr : α → β → Prop) {X : Ex → Prop} {xs : List α} {Q : List β → Prop} (hl : xs.length ≤ lim) (h2 : ∀ x ∈ xs, (∀ Q : β → Prop, (∀ y, Pr x y → Q y) → e x Q (fun _ => False))) (h : ∀ ys : List β, ys.length = xs.length → (∀ i (h : i < xs.length) (h' : i < ys.length), Pr xs[i] ys[i]) → Q ys) : lcT xs (fun _ => pureT true) e Q X := by
  refine ⟨hl, ?_⟩
  clear hl
  induction xs generalizing Q with
  | nil => exact h [] rfl fun i h => absurd h (by simp)
  | cons x xs ih =>
    simp only [lcGoT, pureT_eq, if_true]
    refine h2 x (by simp) _ fun y hy => ih (fun z hz => h2 z (List.mem_cons_of_mem _ hz)) fun ys hl hy2 => h (y :: ys) (by simp [hl]) fun i hi hi' => ?_
    cases i with
    | zero => exact hy
    | succ i => exact hy2 i (by simpa using hi) (by simpa using hi')
/-! loops -/
theorem forT_inv {xs : List α} {s : σ} {B : α → σ → (σ → Prop) → (σ → Prop) → Prop} {K : σ → Prop} (I : Nat → σ → Prop) (h0 : I 0 s)
    (step : ∀ i (h : i < xs.length) s, I i s → ∀ nx : σ → Prop, (∀ s', I (i + 1) s' → nx s') → B xs[i] s nx K) (hK : ∀ s, I xs.length s → K s) : forT xs s B K := by
  induction xs generalizing s I with
  | nil => exact hK s h0
  | cons x xs ih => exact step 0 (by simp) s h0 _ fun s' h' => ih (fun i => I (i + 1)) h' (fun i hi s hs nx hn => by
      have := step (i + 1) (by simpa using hi) s hs nx hn
      simpa using this) (fun s hs => hK s (by simpa using hs))
/-- a loop that goes through: a fold -/
theorem forT_fold {xs : List α} {s : σ} {B : α → σ → (σ → Prop) → (σ → Prop) → Prop} {K : σ → Prop} (f : σ → α → σ) (step : ∀ i (h : i < xs.length), ∀ nx : σ → Prop, nx (f ((xs.take i).foldl f s) xs[i]) → B xs[i] ((xs.take i).foldl f s) nx K) (hK : K (xs.foldl f s)) : forT xs s B K :=
  forT_inv (fun i s' => s' = (xs.take i).foldl f s) (by simp) (fun i h s' e nx hn => by
    subst e
    refine step i h nx (hn _ ?_)
    rw [List.take_succ_eq_append_getElem h, List.foldl_append]; rfl) (fun s' e => by
    subst e
    rw [List.take_length]; exact hK)
/-- a loop that searches -/
theorem forT_all {xs : List α} {B : α → Unit → (Unit → Prop) → (Unit → Prop) → Prop} {K : Unit → Prop} (step : ∀ x ∈ xs, ∀ nx : Unit → Prop, nx () → B x () nx K) (hK : K ()) : forT xs () B K :=
  forT_inv (fun _ _ => True) trivial (fun i h s _ nx hn => step _ (List.getElem_mem h) nx (hn () trivial)) (fun s _ => hK)
theorem whT_meas {s : σ} {B : σ → (σ → Prop) → (σ → Prop) → Prop} {K : σ → Prop} (I : σ → Prop) (m : σ → Nat) (h0 : I s) (step : ∀ s, I s → ∀ nx : σ → Prop, (∀ s', I s' → m s' < m s → nx s') → B s nx K) : whT s B K := by
  have key : ∀ n s, I s → m s < n → whN B K n s := by
    intro n
    induction n with
    | zero => intro s _ h; omega
    | succ n ih => intro s hs hm; exact step s hs _ fun s' h' hl => ih s' h' (by omega)
  exact ⟨m s + 1, key _ s h0 (Nat.lt_succ_self _)⟩
/-! numbers -/
theorem rangeT_len (a b : Int) : (rangeT a b).length = (b - a).toNat := by simp [rangeT]
@[simp] theorem rangeT_get (a b : Int) (i : Nat) (h : i < (rangeT a b).length) : (rangeT a b)[i] = a + i := by simp [rangeT]
theorem rangeT_nat (n : Nat) : rangeT 0 (n : Int) = (List.range n).map fun k : Nat => (k : Int) := by simp [rangeT]
theorem mem_rangeT {a b x : Int} : x ∈ rangeT a b ↔ a ≤ x ∧ x < b := by
  unfold rangeT
  rw [List.mem_map]
  constructor
  · rintro ⟨k, hk, rfl⟩
    simp at hk; omega
  · rintro ⟨h1, h2⟩
    exact ⟨(x - a).toNat, by simp; omega, by omega⟩
theorem enumT_len (xs : List α) : (enumT xs).length = xs.length := by simp [enumT]
@[simp] theorem enumT_get (xs : List α) (i : Nat) (h : i < (enumT xs).length) : (enumT xs)[i] = ((i : Int), xs[i]'(by simpa [enumT] using h)) := by simp [enumT]
end M

-- T5
set_option autoImplicit false
set_option linter.all false
namespace M
variable {ω υ α β γ δ σ ν κ : Type} {c d : Ctx} {e a b o : IE} {es : List IE} {en : α → W} {ek : κ → W} {ev : β → W} {G : GG} {Q : β → Prop} {X : Ex → Prop} {rest body : IS} {P : Prop}
/-! dicts -/
class KeyE (e : κ → W) : Prop where
  ok : ∀ a, keyOk (e a) = true
  eq : ∀ a b, keyEq (e a) (e b) = true ↔ a = b
instance : KeyE nI := ⟨fun _ => rfl, fun a b => by simp [nI, keyEq]⟩
instance : KeyE nC := ⟨fun _ => rfl, fun a b => by simp [nC, keyEq, map_toNat_inj]⟩
theorem keyEq_dec [DecidableEq κ] [h : KeyE ek] (x y : κ) : keyEq (ek x) (ek y) = decide (x = y) := by
  have := h.eq x y
  cases e : keyEq (ek x) (ek y) <;> simp [e] at this ⊢ <;> exact this
def enP (ek : κ → W) (ev : β → W) (p : κ × β) : W × W := (ek p.1, ev p.2)
def nD (ek : κ → W) (ev : β → W) (d : List (κ × β)) : W := .dct (d.map fun p => ek p.1) (d.map fun p => ev p.2)
instance [h : Enc ek] [k : Enc ev] : Enc (nD ek ev) := ⟨fun _ _ => by simp [nD, h.bd, k.bd], fun _ => rfl⟩
instance : NN (nD ek ev) := ⟨fun _ h => by simp [nD] at h⟩
def dGet [DecidableEq κ] (d : List (κ × β)) (k : κ) : Option β := (d.find? fun p => decide (p.1 = k)).map (·.2)
def dPut [DecidableEq κ] (d : List (κ × β)) (k : κ) (v : β) : List (κ × β) := if (d.any fun p => decide (p.1 = k)) = true then d.map (fun p => if p.1 = k then (p.1, v) else p) else d ++ [(k, v)]
def dputT [DecidableEq κ] (d : List (κ × β)) (k : κ) (v : β) (K : List (κ × β) → Prop) : Prop := d.length < lim ∧ K (dPut d k v)
@[simp] theorem dputT_eq [DecidableEq κ] (d : List (κ × β)) (k : κ) (v : β) (K : List (κ × β) → Prop) : dputT d k v K = (d.length < lim ∧ K (dPut d k v)) := rfl
theorem getD_map [DecidableEq κ] [h : KeyE ek] (k : κ) (d : List (κ × β)) : getD (d.map (enP ek ev)) (ek k) = (dGet d k).map ev := by
  unfold getD dGet
  rw [List.find?_map]
  have : ((fun p : W × W => keyEq p.1 (ek k)) ∘ enP ek ev) = fun p => decide (p.1 = k) := by
    funext p; simp only [Function.comp, enP, keyEq_dec]
  rw [this]
  cases d.find? _ <;> rfl
theorem putD_map [DecidableEq κ] [h : KeyE ek] (k : κ) (v : β) (d : List (κ × β)) : putD (d.map (enP ek ev)) (ek k) (ev v) = (dPut d k v).map (enP ek ev) := by
  unfold putD dPut
  rw [List.any_map]
  have : ((fun p : W × W => keyEq p.1 (ek k)) ∘ enP ek ev) = fun p => decide (p.1 = k) := by
    funext p; simp only [Function.comp, enP, keyEq_dec]
  rw [this]
  by_cases g : (d.any fun p => decide (p.1 = k)) = true
  · rw [if_pos g, if_pos g, List.map_map, List.map_map]
    apply List.map_congr_left
    intro p _
    simp only [Function.comp, enP, keyEq_dec]
    by_cases q : p.1 = k <;> simp [q]
  · rw [if_neg g, if_neg g]; simp [enP]
/-- a dict: by value, or one of the store's -/
def DcOf (s : Store) (w : W) (kvs : List (W × W)) : Prop := match w with
  | .dct ks vs => ks = kvs.map (·.1) ∧ vs = kvs.map (·.2)
  | .loc n => 0 < n ∧ s[n]? = some (.dict kvs)
  | _ => False
def rD (ek : κ → W) (ev : β → W) : RR W (List (κ × β)) := ⟨fun s w d => DcOf s w (d.map (enP ek ev)), fun {st s w a} k h => by
  cases w <;> try exact h
  rename_i n
  obtain ⟨h0, h1⟩ := h
  exact ⟨h0, by rw [k.old n h0 (List.getElem?_eq_some_iff.mp h1).1]; exact h1⟩⟩
theorem zip_fst_snd {A B : Type} : ∀ l : List (A × B), (l.map (·.1)).zip (l.map (·.2)) = l
  | [] => rfl
  | p :: l => by simp only [List.map_cons, List.zip_cons_cons, zip_fst_snd l]
theorem dctOf_rD {s : Store} {w : W} {d : List (κ × β)} (h : (rD ek ev).rel s w d) : dctOf s w = some (d.map (enP ek ev)) := by
  cases w <;> simp only [rD, DcOf] at h
  · obtain ⟨rfl, rfl⟩ := h
    simp only [dctOf]
    rw [zip_fst_snd]
  · simp only [dctOf]; rw [h.2]
theorem v2d {t : PT (List (κ × β))} (h : SG c e (rV (nD ek ev)) t) : SG c e (rD ek ev) t := x_wk h fun s w a e => by
  have e : w = nD ek ev a := e
  subst e
  exact ⟨by simp [enP, Function.comp_def], by simp [enP, Function.comp_def]⟩
theorem x_dpar {i : Nat} {w : W} {d : List (κ × β)} (hw : (rD ek ev).rel c.st0 w d) (h : c.pat[i]? = some (some w) := by rfl) : SG c (eVar i) (rD ek ev) (pureT d) := fun env st hc Q X ht => by
  simp only [eVar, hc.cov i _ h]
  exact ⟨.refl hc.pool, d, (rD ek ev).stab hc.keep hw, ht⟩
theorem x_dmut {i : Nat} (k : Nat) {n : Nat} {d : List (κ × β)} (h : c.pat[i]? = some (some (.loc n)) := by rfl) (h1 : c.ns[k]? = some n := by rfl) (h2 : c.cs[k]? = some (.dict (d.map (enP ek ev))) := by rfl) : SG c (eVar i) (rD ek ev) (pureT d) := fun env st hc Q X ht => by
  simp only [eVar, hc.cov i _ h]
  exact ⟨.refl hc.pool, d, hc.cell h1 h2, ht⟩
theorem o_dx [DecidableEq κ] [h : KeyE ek] : Op2 (rD ek ev) (rV ek) opDx (rV ev) fun d k => optT (dGet d k) := by
  rintro s w1 _ d k hp h1 rfl Q X ⟨v, hv, q⟩
  simp only [opDx, dctOf_rD h1, h.ok, if_true, getD_map, hv, Option.map_some]
  exact okV hp _ q
theorem o_din [DecidableEq κ] [h : KeyE ek] : Op2 (rV ek) (rD ek ev) (opDin false) (rV nB) fun k d => pureT (dGet d k).isSome := by
  rintro s _ w2 k d hp rfl h1 Q X q
  simp only [opDin, dctOf_rD h1, h.ok, if_true, getD_map, Option.isSome_map]
  exact okV (en := nB) hp _ q
theorem o_dnin [DecidableEq κ] [h : KeyE ek] : Op2 (rV ek) (rD ek ev) (opDin true) (rV nB) fun k d => pureT (!(dGet d k).isSome) := by
  rintro s _ w2 k d hp rfl h1 Q X q
  simp only [opDin, dctOf_rD h1, h.ok, if_true, getD_map, Option.isSome_map]
  exact okV (en := nB) hp _ q
theorem x_get1 [DecidableEq κ] [h : KeyE ek] {td : PT (List (κ × β))} {tk : PT κ} (hd : SG c o (rD ek ev) td) (hk : SG c a (rV ek) tk) : SG c (eGet1 o a) (rV (nO ev)) (bindT td fun d => bindT tk fun k => pureT (dGet d k)) := fun env st hc Q X ht =>
  OkG.bind (hd env st hc _ X ht) fun w s d k1 h1 hx => by
    simp only [dctOf_rD h1]
    refine OkG.bind (hk env s (hc.keeps k1) _ X hx) fun w2 s2 k k2 h2 hy => ?_
    have h1 := (rD ek ev).stab k2 h1
    have h2 : w2 = ek k := h2
    subst h2
    simp only [dctOf_rD h1, h.ok, if_true, getD_map]
    refine ⟨.refl k2.pool, dGet d k, ?_, hy⟩
    cases dGet d k <;> rfl
theorem x_get2 [DecidableEq κ] [h : KeyE ek] {td : PT (List (κ × β))} {tk : PT κ} {tb : PT β} (hd : SG c o (rD ek ev) td) (hk : SG c a (rV ek) tk) (hb : SG c b (rV ev) tb) : SG c (eGet2 o a b) (rV ev) (bindT td fun d => bindT tk fun k => bindT tb fun x => pureT ((dGet d k).getD x)) := fun env st hc Q X ht =>
  OkG.bind (hd env st hc _ X ht) fun w s d k1 h1 hx => by
    simp only [dctOf_rD h1]
    refine OkG.bind (hk env s (hc.keeps k1) _ X hx) fun w2 s2 k k2 h2 hy => OkG.bind (hb env s2 ((hc.keeps k1).keeps k2) _ X hy) fun w3 s3 x k3 h3 hz => ?_
    have h1 := (rD ek ev).stab k3 ((rD ek ev).stab k2 h1)
    have h2 : w2 = ek k := h2
    have h3 : w3 = ev x := h3
    subst h2; subst h3
    simp only [dctOf_rD h1, h.ok, if_true, getD_map]
    refine ⟨.refl k3.pool, (dGet d k).getD x, ?_, hz⟩
    cases dGet d k <;> rfl
theorem b_lenD : OpC (rCons (rD ek ev) rNil) bLenD (rV nI) fun p => pureT (p.1.length : Int) := by
  rintro s _ ⟨d, u⟩ hp ⟨w, _, rfl, h1, rfl⟩ Q X q
  simp only [bLenD, dctOf_rD h1, List.length_map]
  exact okV (en := nI) hp _ q
/-! lists' functions -/
theorem ints_map (xs : List Int) : intsOf (xs.map nI) = some xs := by
  induction xs with
  | nil => rfl
  | cons x xs ih => simp only [List.map_cons, nI, intsOf] at ih ⊢; rw [ih]; rfl
theorem bls_map (xs : List Bool) : blsOf (xs.map nB) = some xs := by
  induction xs with
  | nil => rfl
  | cons x xs ih => simp only [List.map_cons, nB, blsOf] at ih ⊢; rw [ih]; rfl
def maxL : List Int → Option Int
  | [] => none
  | i :: r => some (r.foldl max i)
def minL : List Int → Option Int
  | [] => none
  | i :: r => some (r.foldl min i)
theorem b_sum : OpC (rCons (rL nI) rNil) bSum (rV nI) fun p => pureT p.1.sum := by
  rintro s _ ⟨d, u⟩ hp ⟨w, _, rfl, h1, rfl⟩ Q X q
  simp only [bSum, onInts, lstOf_rL h1, Option.bind_some, ints_map]
  exact okV (en := nI) hp _ q
theorem b_max : OpC (rCons (rL nI) rNil) bMax (rV nI) fun p => optT (maxL p.1) := by
  rintro s _ ⟨d, u⟩ hp ⟨w, _, rfl, h1, rfl⟩ Q X ⟨m, hm, q⟩
  simp only [bMax, onInts, lstOf_rL h1, Option.bind_some, ints_map]
  cases d with
  | nil => cases hm
  | cons i r => cases hm; exact okV (en := nI) hp _ q
theorem b_min : OpC (rCons (rL nI) rNil) bMin (rV nI) fun p => optT (minL p.1) := by
  rintro s _ ⟨d, u⟩ hp ⟨w, _, rfl, h1, rfl⟩ Q X ⟨m, hm, q⟩
  simp only [bMin, onInts, lstOf_rL h1, Option.bind_some, ints_map]
  cases d with
  | nil => cases hm
  | cons i r => cases hm; exact okV (en := nI) hp _ q
theorem b_max2 : OpC (rCons (rV nI) (rCons (rV nI) rNil)) bMax2 (rV nI) fun p => pureT (max p.1 p.2.1) := by
  rintro s _ ⟨x, y, u⟩ hp ⟨w, _, rfl, h1, w2, _, rfl, h2, rfl⟩ Q X q
  have h1 : w = nI x := h1
  have h2 : w2 = nI y := h2
  subst h1; subst h2
  exact okV (en := nI) hp _ q
theorem b_min2 : OpC (rCons (rV nI) (rCons (rV nI) rNil)) bMin2 (rV nI) fun p => pureT (min p.1 p.2.1) := by
  rintro s _ ⟨x, y, u⟩ hp ⟨w, _, rfl, h1, w2, _, rfl, h2, rfl⟩ Q X q
  have h1 : w = nI x := h1
  have h2 : w2 = nI y := h2
  subst h1; subst h2
  exact okV (en := nI) hp _ q
theorem b_abs : OpC (rCons (rV nI) rNil) bAbs (rV nI) fun p => pureT (p.1.natAbs : Int) := by
  rintro s _ ⟨x, u⟩ hp ⟨w, _, rfl, h1, rfl⟩ Q X q
  have h1 : w = nI x := h1
  subst h1
  exact okV (en := nI) hp _ q
theorem b_all : OpC (rCons (rL nB) rNil) bAll (rV nB) fun p => pureT (p.1.all id) := by
  rintro s _ ⟨d, u⟩ hp ⟨w, _, rfl, h1, rfl⟩ Q X q
  simp only [bAll, lstOf_rL h1, Option.bind_some, bls_map]
  exact okV (en := nB) hp _ q
theorem b_any : OpC (rCons (rL nB) rNil) bAny (rV nB) fun p => pureT (p.1.any id) := by
  rintro s _ ⟨d, u⟩ hp ⟨w, _, rfl, h1, rfl⟩ Q X q
  simp only [bAny, lstOf_rL h1, Option.bind_some, bls_map]
  exact okV (en := nB) hp _ q
theorem l_sortI' {t : PT (List Int)} (h : SG c a (rL nI) t) : SG c (lSortI a) (rLs nI) (bindT t fun x => pureT (sortI x)) := fun env st hc Q X ht =>
  OkG.bind (h env st hc _ X ht) fun w s x k1 h1 hx => by
    simp only [lstOf_rL h1, Option.bind_some, ints_map]
    exact ⟨.refl k1.pool, sortI x, rfl, hx⟩
def idxT [DecidableEq α] (xs : List α) (y : α) : PT Int := fun Q _ => ∃ j : Nat, xs.findIdx? (fun x => decide (x = y)) = some j ∧ Q j
theorem x_index {dp : Nat} [h : Eqq en dp] [f : Flat en] [DecidableEq α] {t : PT (List α)} {tk : PT α} (ho : SG c o (rL en) t) (ha : SG c a (rV en) tk) : SG c (eBm "list" mIndex o [a]) (rV nI) (bindT t fun x => bindT tk fun y => idxT x y) := fun env st hc Q X ht =>
  OkG.bind (ho env st hc _ X ht) fun w s x k1 h1 hx => by
    have ty : tyM s "list" w = true := by
      cases w <;> simp [rL, LsOf] at h1 ⊢
      simp [h1.2]
    rw [if_pos ty]
    refine OkG.bind (r := rCons (rV en) rNil) (P := fun p => idxT x p.1 Q X) ?_ ?_
    · have := (a_cons' ha a_nil') env s (hc.keeps k1) (fun p => idxT x p.1 Q X) X hx
      exact this
    · rintro ws s2 ⟨y, u⟩ k2 ⟨w2, _, rfl, h2, rfl⟩ ⟨j, hj, hy⟩
      have h2 : w2 = en y := h2
      subst h2
      have af : allFlat (x.map en) = true := by unfold allFlat; simp [f.fl]
      have e : idxW (x.map en) (en y) = some j := by
        unfold idxW
        rw [List.findIdx?_map, ← hj]
        congr 1
        funext z
        simp only [Function.comp, eqv_dec]
      simp only [mIndex, lstOf_rL ((rL en).stab k2 h1), f.fl, af, and_self, if_true, e]
      exact okV (en := nI) k2.pool _ hy
/-! statements -/
theorem y_newD {st0 : Store} {pat : Env} {ns : List Nat} {cs : List Cell} {i : Nat} (k : ∀ n, SS ⟨st0, pat.set i (some (.loc n)), n :: ns, .dict (List.map (enP ek ev) []) :: cs⟩ G rest P) : SS ⟨st0, pat, ns, cs⟩ G (sSeq (sSet i eNewD) rest) P := fun hp env st hc => by
  have ks : Keep st (st ++ [.dict []]) := ⟨by
      obtain ⟨c0, t0, rfl, h0⟩ := hc.pool
      exact ⟨c0, t0 ++ [.dict []], rfl, h0⟩, by simp, fun i h0 hi => by rw [List.getElem?_append_left hi]⟩
  have hc2 := (hc.keeps ks).pat (hc.covv.set i (some (.loc st.length)))
  simp only [sSeq, sSet, eNewD]
  refine k st.length hp _ _ ⟨hc2.cov, hc2.len, hc2.keep, hc2.p0, ?_, ?_, by simp [hc2.lc], fun k n y h1 h2 => ?_⟩
  · refine List.nodup_cons.2 ⟨fun hm => ?_, hc.nd⟩
    obtain ⟨j, hj⟩ := List.getElem?_of_mem hm
    have hl := (List.getElem?_eq_some_iff.mp hj).1
    have hl2 : j < cs.length := by have := hc.lc; simp only at this; rw [← this]; exact hl
    have := hc.at_ j _ _ hj (List.getElem?_eq_getElem hl2)
    have := (List.getElem?_eq_some_iff.mp this).1
    omega
  · intro n hn
    rcases List.mem_cons.1 hn with rfl | hn
    · exact hc.ge
    · exact hc.nge n hn
  · cases k with
    | zero => simp at h1 h2; subst h1; subst h2; simp
    | succ k => exact hc2.at_ k n y (by simpa using h1) (by simpa using h2)
/-- a relation of new entries -/
def rDs (ek : κ → W) (ev : β → W) : RR (List (W × W)) (List (κ × β)) := ⟨fun _ ws d => ws = d.map (enP ek ev), fun _ h => h⟩
theorem x_dct {l : ID} {t : PT (List (κ × β))} (h : SG c l (rDs ek ev) t) : SG c (eDct l) (rV (nD ek ev)) t := fun env st hc Q X ht =>
  OkG.bind (h env st hc _ X ht) fun w s x k1 h1 hx => by
    have h1 : w = x.map (enP ek ev) := h1
    subst h1
    exact ⟨.refl k1.pool, x, by show W.dct _ _ = _; simp [nD, enP, Function.comp_def], hx⟩
theorem y_setND {st0 : Store} {pat : Env} {ns : List Nat} {cs : List Cell} {i : Nat} {l : ID} {t : PT (List (κ × β))} {K : List (κ × β) → Prop} (gx : GX ⟨st0, pat, ns, cs⟩ G X) (h : SG ⟨st0, pat, ns, cs⟩ l (rDs ek ev) t) (k : ∀ x n, SS ⟨st0, pat.set i (some (.loc n)), n :: ns, .dict (x.map (enP ek ev)) :: cs⟩ G rest (K x)) : SS ⟨st0, pat, ns, cs⟩ G (sSeq (sSet i (eNewDc l)) rest) (t K X) := fun hp env st hc => by
  rcases h.run gx hc hp with ⟨w, s, x, e1, k1, hc1, r1, hk⟩ | ⟨z, s, e1, g⟩
  · have r1 : w = x.map (enP ek ev) := r1
    subst r1
    simp only [sSeq, sSet, eNewDc, e1, bind_ok]
    have ks : Keep s (s ++ [.dict (x.map (enP ek ev))]) := ⟨by
      obtain ⟨c0, t0, rfl, h0⟩ := hc1.pool
      exact ⟨c0, t0 ++ [.dict (x.map (enP ek ev))], rfl, h0⟩, by simp, fun i h0 hi => by rw [List.getElem?_append_left hi]⟩
    have hc2 := (hc1.keeps ks).pat (hc1.covv.set i (some (.loc s.length)))
    refine k x s.length hk _ _ ⟨hc2.cov, hc2.len, hc2.keep, hc2.p0, ?_, ?_, by simp [hc2.lc], fun k n y h1 h2 => ?_⟩
    · refine List.nodup_cons.2 ⟨fun hm => ?_, hc1.nd⟩
      obtain ⟨j, hj⟩ := List.getElem?_of_mem hm
      have hl := (List.getElem?_eq_some_iff.mp hj).1
      have hl2 : j < cs.length := by have := hc1.lc; simp only at this; rw [← this]; exact hl
      have := hc1.at_ j _ _ hj (List.getElem?_eq_getElem hl2)
      have := (List.getElem?_eq_some_iff.mp this).1
      omega
    · intro n hn
      rcases List.mem_cons.1 hn with rfl | hn
      · exact hc1.ge
      · exact hc1.nge n hn
    · cases k with
      | zero => simp at h1 h2; subst h1; subst h2; simp
      | succ k => exact hc2.at_ k n y (by simpa using h1) (by simpa using h2)
  · simp only [sSeq, sSet, eNewDc, e1, bind_exc]; exact g
theorem y_dput {st0 : Store} {pat : Env} {ns : List Nat} {cs : List Cell} [DecidableEq κ] [hk : KeyE ek] {i : Nat} (k : Nat) {n : Nat} {d : List (κ × β)} {t : PT β} {ti : PT κ} {K : List (κ × β) → Prop} (gx : GX ⟨st0, pat, ns, cs⟩ G X) (ha : SG ⟨st0, pat, ns, cs⟩ e (rV ev) t) (hi : SG ⟨st0, pat, ns, cs⟩ b (rV ek) ti) (kk : ∀ y, SS ⟨st0, pat, ns, cs.set k (.dict (y.map (enP ek ev)))⟩ G rest (K y))
    (h : pat[i]? = some (some (.loc n)) := by rfl) (h1 : ns[k]? = some n := by rfl) (h2 : cs[k]? = some (.dict (d.map (enP ek ev))) := by rfl) : SS ⟨st0, pat, ns, cs⟩ G (sSeq (sDPut (eVar i) b e) rest) (t (fun v => ti (fun k => dputT d k v K) X) X) := fun hp env st hc => by
  rcases ha.run gx hc hp with ⟨w, s, x, e1, k1, hc1, r1, hkk⟩ | ⟨z, s, e1, g⟩
  · have r1 : w = ev x := r1
    subst r1
    rcases hi.run gx hc1 hkk with ⟨w2, s2, y, e2, k2, hc2, r2, hl, hk2⟩ | ⟨z, s2, e2, g⟩
    · have r2 : w2 = ek y := r2
      subst r2
      obtain ⟨q3, q4⟩ := hc2.cell h1 h2
      have hl' : (d.map (enP ek ev)).length < lim := by simpa using hl
      simp only [sSeq, sDPut, e1, eVar, hc1.cov i _ h, e2, setDx, q4, hk.ok, hl', and_self, if_true, putD_map]
      have := hc2.put h1 h2 (.dict ((dPut d y x).map (enP ek ev)))
      exact kk _ hk2 _ _ this
    · simp only [sSeq, sDPut, e1, eVar, hc1.cov i _ h, e2]; exact g
  · simp only [sSeq, sDPut, e1]; exact g
/-- the end of a def: a dict of its own is handed back -/
theorem y_retD {i : Nat} (k : Nat) {n : Nat} {d : List (κ × β)} {Q : List (κ × β) → Prop} (gr : GR c.st0 G (nD ek ev) Q) (h : c.pat[i]? = some (some (.loc n)) := by rfl) (h1 : c.ns[k]? = some n := by rfl) (h2 : c.cs[k]? = some (.dict (d.map (enP ek ev))) := by rfl) : SS c G (sRet (eVar i)) (Q d) := fun hp env st hc => by
  obtain ⟨q1, q2⟩ := hc.cell h1 h2
  simp only [sRet, eVar, hc.cov i _ h]
  refine gr _ st d hc.keep ?_ hp
  have : ¬ n < c.st0.length := Nat.not_lt.2 (hc.nge n (List.mem_of_getElem? h1))
  simp [frz, this, q2, nD, enP, Function.comp_def]
/-! what stops changing -/
theorem Cx.drop {st0 : Store} {pat : Env} {ns : List Nat} {cs : List Cell} {env : Env} {st : Store} (hc : Cx ⟨st0, pat, ns, cs⟩ env st) (k : Nat) {n : Nat} {x : Cell} (h1 : ns[k]? = some n) (h2 : cs[k]? = some x) (y : Cell) : Cx ⟨st0, pat, ns.eraseIdx k, cs.eraseIdx k⟩ env (st.set n y) := by
  have q := hc.put h1 h2 y
  have hk : k < ns.length := (List.getElem?_eq_some_iff.mp h1).1
  have hl : ns.length = cs.length := hc.lc
  have nd : ns.Nodup := hc.nd
  refine ⟨hc.cov, hc.len, q.keep, hc.p0, nd.sublist (List.eraseIdx_sublist ..), fun m hm => hc.nge m (List.mem_of_mem_eraseIdx hm), ?_, fun j m z e1 e2 => ?_⟩
  · simp only [List.length_eraseIdx, hl]
  · simp only [List.getElem?_eraseIdx] at e1 e2
    have key : ∀ j', j' ≠ k → ns[j']? = some m → cs[j']? = some z → (st.set n y)[m]? = some z := fun j' hj p1 p2 => by
      refine q.at_ j' m z p1 ?_
      show (cs.set k y)[j']? = _
      rw [List.getElem?_set_ne (fun e => hj e.symm)]; exact p2
    split at e1
    · rename_i hj
      rw [if_pos hj] at e2
      exact key j (by omega) e1 e2
    · rename_i hj
      rw [if_neg hj] at e2
      exact key (j + 1) (by omega) e1 e2
theorem y_frzL {st0 : Store} {pat : Env} {ns : List Nat} {cs : List Cell} {i : Nat} (k : Nat) {n : Nat} {xs : List α} (hb : SS ⟨st0, pat.set i (some (nL en xs)), ns.eraseIdx k, cs.eraseIdx k⟩ G rest P)
    (h : pat[i]? = some (some (.loc n)) := by rfl) (h1 : ns[k]? = some n := by rfl) (h2 : cs[k]? = some (.lst (xs.map en)) := by rfl) : SS ⟨st0, pat, ns, cs⟩ G (sSeq (sSet i (eFrz (eVar i))) rest) P := fun hp env st hc => by
  obtain ⟨q3, q4⟩ := hc.cell h1 h2
  simp only [sSeq, sSet, eFrz, eVar, hc.cov i _ h, bind_ok, frzOp, q4]
  exact hb hp _ _ ((hc.drop k h1 h2 .gone).pat (hc.covv.set i _))
theorem y_frzD {st0 : Store} {pat : Env} {ns : List Nat} {cs : List Cell} {i : Nat} (k : Nat) {n : Nat} {d : List (κ × β)} (hb : SS ⟨st0, pat.set i (some (nD ek ev d)), ns.eraseIdx k, cs.eraseIdx k⟩ G rest P)
    (h : pat[i]? = some (some (.loc n)) := by rfl) (h1 : ns[k]? = some n := by rfl) (h2 : cs[k]? = some (.dict (d.map (enP ek ev))) := by rfl) : SS ⟨st0, pat, ns, cs⟩ G (sSeq (sSet i (eFrz (eVar i))) rest) P := fun hp env st hc => by
  obtain ⟨q3, q4⟩ := hc.cell h1 h2
  simp only [sSeq, sSet, eFrz, eVar, hc.cov i _ h, bind_ok, frzOp, q4]
  refine hb hp _ _ ((hc.drop k h1 h2 .gone).pat ?_)
  have : W.dct ((d.map (enP ek ev)).map (·.1)) ((d.map (enP ek ev)).map (·.2)) = nD ek ev d := by simp [nD, enP, Function.comp_def]
  rw [this]
  exact hc.covv.set i _
/-- methods that change a list -/
theorem y_ext {st0 : Store} {pat : Env} {ns : List Nat} {cs : List Cell} {i : Nat} (k : Nat) {n : Nat} {xs : List α} {t : PT (List α)} {K : List α → Prop} (gx : GX ⟨st0, pat, ns, cs⟩ G X) (ha : SG ⟨st0, pat, ns, cs⟩ e (rL en) t) (kk : ∀ ys, SS ⟨st0, pat, ns, cs.set k (.lst (ys.map en))⟩ G rest (K ys))
    (h : pat[i]? = some (some (.loc n)) := by rfl) (h1 : ns[k]? = some n := by rfl) (h2 : cs[k]? = some (.lst (xs.map en)) := by rfl) : SS ⟨st0, pat, ns, cs⟩ G (sSeq (sDrop (eBm "list" mExt (eVar i) [e])) rest) (t (fun a => xs.length + a.length ≤ lim ∧ K (xs ++ a)) X) := fun hp env st hc => by
  obtain ⟨q1, q2⟩ := hc.cell h1 h2
  have ty : tyM st "list" (.loc n) = true := by simp [q2]
  rcases ha.run gx hc hp with ⟨w, s, x, e1, k1, hc1, r1, hl, hk⟩ | ⟨z, s, e1, g⟩
  · obtain ⟨q3, q4⟩ := hc1.cell h1 h2
    have hl' : (xs.map en).length + (x.map en).length ≤ lim := by simpa using hl
    simp only [sSeq, sDrop, eBm, eVar, hc.cov i _ h, bind_ok, ty, if_true, eArgs, e1, mExt, q4, lstOf_rL r1, hl']
    have := hc1.put h1 h2 (.lst ((xs ++ x).map en))
    have := kk _ hk _ _ this
    simpa using this
  · simp only [sSeq, sDrop, eBm, eVar, hc.cov i _ h, bind_ok, ty, if_true, eArgs, e1, bind_exc]; exact g
theorem y_rev {st0 : Store} {pat : Env} {ns : List Nat} {cs : List Cell} {i : Nat} (k : Nat) {n : Nat} {xs : List α} {K : List α → Prop} (kk : ∀ ys, SS ⟨st0, pat, ns, cs.set k (.lst (ys.map en))⟩ G rest (K ys))
    (h : pat[i]? = some (some (.loc n)) := by rfl) (h1 : ns[k]? = some n := by rfl) (h2 : cs[k]? = some (.lst (xs.map en)) := by rfl) : SS ⟨st0, pat, ns, cs⟩ G (sSeq (sDrop (eBm "list" mRev (eVar i) [])) rest) (K xs.reverse) := fun hp env st hc => by
  obtain ⟨q1, q2⟩ := hc.cell h1 h2
  have ty : tyM st "list" (.loc n) = true := by simp [q2]
  simp only [sSeq, sDrop, eBm, eVar, hc.cov i _ h, bind_ok, ty, if_true, eArgs, mRev, q2]
  have := hc.put h1 h2 (.lst (xs.reverse.map en))
  have := kk _ hp _ _ this
  simpa using this
theorem y_ins {st0 : Store} {pat : Env} {ns : List Nat} {cs : List Cell} {i : Nat} (k : Nat) {n : Nat} {xs : List α} {t : PT α} {tj : PT Int} {K : List α → Prop} (gx : GX ⟨st0, pat, ns, cs⟩ G X) (hj : SG ⟨st0, pat, ns, cs⟩ b (rV nI) tj) (ha : SG ⟨st0, pat, ns, cs⟩ e (rV en) t) (kk : ∀ ys, SS ⟨st0, pat, ns, cs.set k (.lst (ys.map en))⟩ G rest (K ys))
    (h : pat[i]? = some (some (.loc n)) := by rfl) (h1 : ns[k]? = some n := by rfl) (h2 : cs[k]? = some (.lst (xs.map en)) := by rfl) : SS ⟨st0, pat, ns, cs⟩ G (sSeq (sDrop (eBm "list" mIns (eVar i) [b, e])) rest) (tj (fun j => t (fun a => (xs.length < lim ∧ 0 ≤ j ∧ inR j) ∧ K (xs.take j.toNat ++ [a] ++ xs.drop j.toNat)) X) X) := fun hp env st hc => by
  obtain ⟨q1, q2⟩ := hc.cell h1 h2
  have ty : tyM st "list" (.loc n) = true := by simp [q2]
  rcases hj.run gx hc hp with ⟨w, s, j, e1, k1, hc1, r1, hk⟩ | ⟨z, s, e1, g⟩
  · have r1 : w = .int j := r1
    subst r1
    rcases ha.run gx hc1 hk with ⟨w2, s2, x, e2, k2, hc2, r2, hl, hk2⟩ | ⟨z, s2, e2, g⟩
    · have r2 : w2 = en x := r2
      subst r2
      obtain ⟨q3, q4⟩ := hc2.cell h1 h2
      have hl' : (xs.map en).length < lim ∧ 0 ≤ j ∧ inR j := by simpa using hl
      simp only [sSeq, sDrop, eBm, eVar, hc.cov i _ h, bind_ok, ty, if_true, eArgs, e1, e2, mIns, q4]
      rw [if_pos hl']
      have := hc2.put h1 h2 (.lst ((xs.take j.toNat ++ [x] ++ xs.drop j.toNat).map en))
      have := kk _ hk2 _ _ this
      simpa using this
    · simp only [sSeq, sDrop, eBm, eVar, hc.cov i _ h, bind_ok, ty, if_true, eArgs, e1, e2, bind_exc]; exact g
  · simp only [sSeq, sDrop, eBm, eVar, hc.cov i _ h, bind_ok, ty, if_true, eArgs, e1, bind_exc]; exact g
/-! comprehensions of dicts -/
def dcGoT [DecidableEq κ] (cd : α → PT Bool) (kt : α → PT κ) (vt : α → PT β) : List α → List (κ × β) → PT (List (κ × β))
  | [], acc => pureT acc
  | x :: r, acc => fun Q X => cd x (fun b => if b = true then kt x (fun k => vt x (fun v => dcGoT cd kt vt r (dPut acc k v) Q X) (fun _ => False)) (fun _ => False) else dcGoT cd kt vt r acc Q X) (fun _ => False)
def dcT [DecidableEq κ] (xs : List α) (cd : α → PT Bool) (kt : α → PT κ) (vt : α → PT β) : PT (List (κ × β)) := fun Q X => xs.length ≤ lim ∧ dcGoT cd kt vt xs [] Q X
theorem dPut_len [DecidableEq κ] (d : List (κ × β)) (k : κ) (v : β) : (dPut d k v).length ≤ d.length + 1 := by
  unfold dPut; split <;> simp
theorem x_dc [DecidableEq κ] [hkey : KeyE ek] {it : II} {g : Tg} {tst : IT} {kx vx : IE} {own : List Nat} {pins : List Nat} {f : α → Env → Env} {tx : PT (List α)} {tc : α → PT Bool} {tk : α → PT κ} {tv : α → PT β} (hi : SG c it (rI c.st0.length pins en) tx) (hg : TGt g en f)
    (ht : ∀ x, SG ⟨c.st0, f x (wipeE c.pat own), c.ns, c.cs⟩ tst rB (tc x)) (hk : ∀ x, SG ⟨c.st0, f x (wipeE c.pat own), c.ns, c.cs⟩ kx (rV ek) (tk x)) (hv : ∀ x, SG ⟨c.st0, f x (wipeE c.pat own), c.ns, c.cs⟩ vx (rV ev) (tv x)) : SG c (dDC it g tst kx vx own) (rDs ek ev) (bindT tx fun xs => dcT xs tc tk tv) := fun env st hc Q X h =>
  OkG.bind (hi env st hc _ X h) fun I s xs k1 ⟨r1, r2, r3, r4⟩ ⟨hl, hx⟩ => by
    have hc1 := hc.keeps k1
    have key : ∀ (xs : List α) (s2 : Store) (acc : List (κ × β)), Keep s s2 → acc.length + xs.length ≤ lim → dcGoT tc tk tv xs acc Q X → OkG s2 (rDs ek ev) Q X (dcGo I.guard g tst kx vx (wipeE env own) (xs.map en) s2 (acc.map (enP ek ev))) := by
      intro xs
      induction xs with
      | nil =>
        intro s2 acc k2 hl q
        have gd : I.guard s2 := r4 s2 fun i h0 hi => k2.old i h0 (hi.elim (fun q => Nat.lt_of_lt_of_le q r3) (r2 i))
        simp only [List.map_nil, dcGo, if_pos gd]
        exact ⟨.refl k2.pool, acc, rfl, q⟩
      | cons x xs ih =>
        intro s2 acc k2 hl q
        have gd : I.guard s2 := r4 s2 fun i h0 hi => k2.old i h0 (hi.elim (fun q => Nat.lt_of_lt_of_le q r3) (r2 i))
        obtain ⟨e2, h1, h2⟩ := hg x _ _ (hc.covv.wipe own)
        have hc2 : Cx { c with pat := f x (wipeE c.pat own) } e2 s2 := (hc1.keeps k2).pat h2
        have := ht x e2 s2 hc2 _ _ q
        simp only [List.map_cons, dcGo, if_pos gd, h1]
        revert this
        cases tst e2 s2 with
        | stuck => exact fun h => h.elim
        | exc z s3 => exact fun h => h.2.1.elim
        | ok w s3 =>
          rintro ⟨k3, bb, hb, hq⟩
          have hb : w = bb := hb
          subst hb
          simp only [List.length_cons] at hl
          cases w with
          | false => exact (ih s3 acc (k2.trans k3) (by omega) hq).keep k3
          | true =>
            have := hk x e2 s3 (hc2.keeps k3) _ _ hq
            simp only
            revert this
            cases kx e2 s3 with
            | stuck => exact fun h => h.elim
            | exc z s4 => exact fun h => h.2.1.elim
            | ok y s4 =>
              rintro ⟨k4, b, hb, hq⟩
              have hb : y = ek b := hb
              subst hb
              have := hv x e2 s4 ((hc2.keeps k3).keeps k4) _ _ hq
              simp only
              revert this
              cases vx e2 s4 with
              | stuck => exact fun h => h.elim
              | exc z s5 => exact fun h => h.2.1.elim
              | ok z s5 =>
                rintro ⟨k5, b2, hb, hq⟩
                have hb : z = ev b2 := hb
                subst hb
                simp only
                rw [if_pos ⟨hkey.ok b, by simp; omega⟩, putD_map]
                have := ih s5 (dPut acc b b2) (((k2.trans k3).trans k4).trans k5) (by have := dPut_len acc b b2; omega) hq
                exact ((this.keep k5).keep k4).keep k3
    have := key xs s [] (.refl k1.pool) (by simpa using hl) hx
    rw [r1]
    simpa using this
theorem o_augA : Op2 (rV nI) (rV nI) (opAugI fun i j => i + j) (rV nI) fun x y => pureT (x + y) := by rintro s _ _ x y hp rfl rfl Q X h; exact okV (en := nI) hp _ h
theorem o_augS : Op2 (rV nI) (rV nI) (opAugI fun i j => i - j) (rV nI) fun x y => pureT (x - y) := by rintro s _ _ x y hp rfl rfl Q X h; exact okV (en := nI) hp _ h
theorem y_frzV {st0 : Store} {pat : Env} {ns : List Nat} {cs : List Cell} {i : Nat} [he : Enc en] {x : α} (hb : SS ⟨st0, pat, ns, cs⟩ G rest P) (h : pat[i]? = some (some (en x)) := by rfl) : SS ⟨st0, pat, ns, cs⟩ G (sSeq (sSet i (eFrz (eVar i))) rest) P := fun hp env st hc => by
  have e : frzOp (en x) st = .ok (en x) st := by
    have := he.nl x
    cases h : en x <;> first | rfl | (rw [h] at this; cases this)
  simp only [sSeq, sSet, eFrz, eVar, hc.cov i _ h, bind_ok, e]
  refine hb hp _ _ (hc.pat (p2 := pat) ⟨by simp [hc.len], fun j w q => ?_⟩)
  by_cases hj : i = j
  · subst hj
    have q' : pat[i]? = some (some w) := q
    rw [h] at q'; cases q'
    have hl : i < env.length := by rw [hc.len]; exact (List.getElem?_eq_some_iff.mp h).1
    rw [List.getElem?_set_self hl]
  · rw [List.getElem?_set_ne hj]; exact hc.cov j w q
theorem y_never : SS c G sNever False := fun hp => hp.elim
theorem p_spar {i : Nat} {w : W} {xs : List α} (hw : (rS en).rel c.st0 w xs) (h : c.pat[i]? = some (some w) := by rfl) : SG c (eVar i) (rP c.st0.length [] en) (pureT xs) := fun env st hc Q X ht => by
  rcases hw with rfl | hw
  · simp only [eVar, hc.cov i _ h]
    exact ⟨.refl hc.pool, xs, ⟨hc.ge, .inl rfl, fun n h => absurd h (by simp)⟩, ht⟩
  · exact p_par (en := en) hw h env st hc Q X ht
end M

-- T6
set_option autoImplicit false
set_option linter.all false
set_option maxRecDepth 100000
namespace M
variable {α β γ κ σ ν : Type}
/-! ### try .. except .. as e: what a handler does with e does not hang on where it lies -/
def RInd (i : Nat) (x y : W) : RS → RS → Prop
  | .nx e1 s1, r => ∃ e : Env, e1 = e.set i (some x) ∧ r = .nx (e.set i (some y)) s1
  | .brk e1 s1, r => ∃ e : Env, e1 = e.set i (some x) ∧ r = .brk (e.set i (some y)) s1
  | .cnt e1 s1, r => ∃ e : Env, e1 = e.set i (some x) ∧ r = .cnt (e.set i (some y)) s1
  | .ret w s1, r => r = .ret w s1
  | .exc z _ s1, r => ∃ e2, r = .exc z e2 s1
  | .stuck, r => r = .stuck
def IndE (i : Nat) (x y : W) (f g : IE) : Prop := ∀ (e : Env) (st : Store), f (e.set i (some x)) st = g (e.set i (some y)) st
def IndA (i : Nat) (x y : W) (f g : List IE) : Prop := ∀ (e : Env) (st : Store), eArgs f (e.set i (some x)) st = eArgs g (e.set i (some y)) st
def IndT (i : Nat) (x y : W) (f g : IT) : Prop := ∀ (e : Env) (st : Store), f (e.set i (some x)) st = g (e.set i (some y)) st
def IndS (i : Nat) (x y : W) (f g : IS) : Prop := ∀ (e : Env) (st : Store), RInd i x y (f (e.set i (some x)) st) (g (e.set i (some y)) st)
variable {i : Nat} {x y : W} {f g f2 g2 : IE} {as bs : List IE}
theorem ind_var {j : Nat} (h : i ≠ j) : IndE i x y (eVar j) (eVar j) := fun e st => by
  simp only [eVar, List.getElem?_set_ne h]
theorem ind_c {w : W} : IndE i x y (eC w) (eC w) := fun _ _ => rfl
theorem ind_op {o : W → W → Store → R W} (h1 : IndE i x y f g) (h2 : IndE i x y f2 g2) : IndE i x y (eOp o f f2) (eOp o g g2) := fun e st => by
  simp only [eOp, h1 e st]
  congr 1; funext a s; rw [h2 e s]
theorem exvW_get {a : Nat} {d : Option Nat} {z : Ex} {e : Env} {i : Nat} (h : i < e.length) : (e.set i (some (exvW a d z)))[i]? = some (some (exvW a d z)) := by
  rw [List.getElem?_set_self h]
theorem isE_val {a : Nat} {d : Option Nat} {z : Ex} (hd : d.isSome = z.d.isSome) (subs : List String) (st : Store) :
    (match exvW a d z with
  | .exv a' c' f _ => if a' = a ∧ c' = z.c ∧ f.map (·.1) = d then R.ok (W.bl (subs.contains z.c)) st else R.stuck
  | _ => R.stuck) = R.ok (W.bl (subs.contains z.c)) st := by
  obtain ⟨c0, d0⟩ := z
  unfold exvW
  cases d with
  | none => simp
  | some dd => cases d0 with
    | none => cases hd
    | some fs => simp
theorem ind_is {a : Nat} {d : Option Nat} {z : Ex} {subs : List String} (hd : d.isSome = z.d.isSome) : IndE i (exvW a d z) (exvW 0 (exd0 z) z) (eIsE a d z.c subs (eVar i)) (eIsE 0 (exd0 z) z.c subs (eVar i)) := fun e st => by
  simp only [eIsE, eVar]
  by_cases h : i < e.length
  · rw [exvW_get h, exvW_get h]
    simp only [bind_ok]
    exact (isE_val hd subs st).trans (isE_val (by simp [exd0]) subs st).symm
  · have h1 : (e.set i (some (exvW a d z)))[i]? = none := List.getElem?_eq_none (by simpa using h)
    have h2 : (e.set i (some (exvW 0 (exd0 z) z)))[i]? = none := List.getElem?_eq_none (by simpa using h)
    simp only [h1, h2]; rfl
theorem exF_val {a : Nat} {d : Option Nat} {z : Ex} (hd : d.isSome = z.d.isSome) (f : String) (st : Store) :
    (match exvW a d z with
  | .exv a' c' (some (d', ns)) ws => if a' = a ∧ c' = z.c ∧ some d' = d then (match (ns.zip ws).lookup f with
    | some w => R.ok w st
    | none => .stuck) else .stuck
  | _ => .stuck) = (match z.d with
  | none => R.stuck
  | some fs => match ((fs.map (·.1)).zip (fs.map (·.2))).lookup f with
    | some w => R.ok w st
    | none => .stuck) := by
  obtain ⟨c0, d0⟩ := z
  unfold exvW
  cases d with
  | none => cases d0 with
    | none => rfl
    | some fs => cases hd
  | some dd => cases d0 with
    | none => cases hd
    | some fs => simp
theorem ind_exF {a : Nat} {d : Option Nat} {z : Ex} {f : String} (hd : d.isSome = z.d.isSome) : IndE i (exvW a d z) (exvW 0 (exd0 z) z) (eExF a d z.c f (eVar i)) (eExF 0 (exd0 z) z.c f (eVar i)) := fun e st => by
  simp only [eExF, eVar]
  by_cases h : i < e.length
  · rw [exvW_get h, exvW_get h]
    simp only [bind_ok]
    have h1 := exF_val (a := a) hd f st
    have h2 := exF_val (a := 0) (d := exd0 z) (z := z) (by simp [exd0]) f st
    exact h1.trans h2.symm
  · have h1 : (e.set i (some (exvW a d z)))[i]? = none := List.getElem?_eq_none (by simpa using h)
    have h2 : (e.set i (some (exvW 0 (exd0 z) z)))[i]? = none := List.getElem?_eq_none (by simpa using h)
    simp only [h1, h2]; rfl
theorem ind_nil : IndA i x y [] [] := fun _ _ => rfl
theorem ind_cons (h1 : IndE i x y f g) (h2 : IndA i x y as bs) : IndA i x y (f :: as) (g :: bs) := fun e st => by
  simp only [eArgs, h1 e st]
  congr 1; funext a s; rw [h2 e s]
theorem ind_B {o : List W → Store → R W} (h : IndA i x y as bs) : IndE i x y (eB o as) (eB o bs) := fun e st => by
  simp only [eB, h e st]
theorem ind_tup (h : IndA i x y as bs) : IndE i x y (eTup as) (eTup bs) := fun e st => by
  simp only [eTup, h e st]
theorem ind_val (h : IndE i x y f g) : IndT i x y (tVal f) (tVal g) := fun e st => by
  simp only [tVal, h e st]
theorem ind_not (h : IndE i x y f g) : IndE i x y (eNotV f) (eNotV g) := fun e st => by
  simp only [eNotV, h e st]
theorem ind_and (h : IndE i x y f g) (k : IndE i x y f2 g2) : IndE i x y (eAndV f f2) (eAndV g g2) := fun e st => by
  simp only [eAndV, h e st, k e]
theorem ind_or (h : IndE i x y f g) (k : IndE i x y f2 g2) : IndE i x y (eOrV f f2) (eOrV g g2) := fun e st => by
  simp only [eOrV, h e st, k e]
theorem ind_call {q : Fn} (h : IndA i x y as bs) : IndE i x y (eCall q as) (eCall q bs) := fun e st => by
  simp only [eCall, h e st]
theorem ind_bm {T : String} {m : W → List W → Store → R W} (h : IndE i x y f g) (k : IndA i x y as bs) : IndE i x y (eBm T m f as) (eBm T m g bs) := fun e st => by
  simp only [eBm, h e st, k e]
theorem ind_ifE {p q : IT} (h0 : IndT i x y p q) (h : IndE i x y f g) (k : IndE i x y f2 g2) : IndE i x y (eIf p f f2) (eIf q g g2) := fun e st => by
  simp only [eIf, h0 e st, h e, k e]
def IndL (i : Nat) (x y : W) (f g : IL) : Prop := ∀ (e : Env) (st : Store), f (e.set i (some x)) st = g (e.set i (some y)) st
def IndI (i : Nat) (x y : W) (f g : II) : Prop := ∀ (e : Env) (st : Store), f (e.set i (some x)) st = g (e.set i (some y)) st
theorem ind_lst {l m : IL} (h : IndL i x y l m) : IndE i x y (eLst l) (eLst m) := fun e st => by
  simp only [eLst, h e st]
theorem ind_new {l m : IL} (h : IndL i x y l m) : IndE i x y (eNew l) (eNew m) := fun e st => by
  simp only [eNew, h e st]
theorem ind_args (h : IndA i x y as bs) : IndL i x y (eArgs as) (eArgs bs) := h
theorem ind_cat (h : IndE i x y f g) (k : IndE i x y f2 g2) : IndL i x y (lCat f f2) (lCat g g2) := fun e st => by
  simp only [lCat, h e st, k e]
theorem ind_range (h : IndA i x y as bs) : IndI i x y (iRange as) (iRange bs) := fun e st => by
  simp only [iRange, h e st]
theorem ind_seqI (h : IndE i x y f g) : IndI i x y (iSeq f) (iSeq g) := fun e st => by
  simp only [iSeq, h e st]
theorem ind_tyes : IndT i x y tYes tYes := fun _ _ => rfl
theorem ind_tru (h : IndE i x y f g) : IndT i x y (tTru f) (tTru g) := fun e st => by
  simp only [tTru, h e st]
theorem ind_tnot {p q : IT} (h : IndT i x y p q) : IndT i x y (tNot p) (tNot q) := fun e st => by
  simp only [tNot, h e st]
theorem ind_tand {p q p2 q2 : IT} (h : IndT i x y p q) (k : IndT i x y p2 q2) : IndT i x y (tAnd p p2) (tAnd q q2) := fun e st => by
  simp only [tAnd, h e st, k e]
theorem ind_tor {p q p2 q2 : IT} (h : IndT i x y p q) (k : IndT i x y p2 q2) : IndT i x y (tOr p p2) (tOr q q2) := fun e st => by
  simp only [tOr, h e st, k e]
/-- a target that lets the slot be -/
def IndG (i : Nat) (g : Tg) : Prop := ∀ (w u : W) (e : Env), g.run w (e.set i (some u)) = (g.run w e).map fun e => e.set i (some u)
theorem ind_tg {j : Nat} (h : i ≠ j) : IndG i (tgName j) := fun w u e => by
  simp only [tgName, Option.map_some]
  rw [List.set_comm _ _ h]
theorem wipe_set {own : List Nat} (h : i ∉ own) (u : W) : ∀ e : Env, wipeE (e.set i (some u)) own = (wipeE e own).set i (some u) := by
  induction own with
  | nil => intro e; rfl
  | cons j own ih =>
    intro e
    simp only [List.mem_cons, not_or] at h
    simp only [wipeE]
    rw [List.set_comm _ _ h.1, ih h.2]
theorem lcGo_ind {G : Store → Prop} {tg : Tg} {p q : IT} (hg : IndG i tg) (hp : IndT i x y p q) (hf : IndE i x y f g) (E : Env) : ∀ (ws : List W) (st : Store) (acc : List W), lcGo G tg p f (E.set i (some x)) ws st acc = lcGo G tg q g (E.set i (some y)) ws st acc
  | [], st, acc => rfl
  | w :: ws, st, acc => by
    simp only [lcGo, hg w x E, hg w y E]
    cases tg.run w E with
    | none => rfl
    | some e =>
      have hf' := hf e
      simp only [Option.map_some, hp e st, hf']
      split
      · split <;> first | rfl | skip
        · split <;> first | rfl | skip
          split <;> first | rfl | exact lcGo_ind hg hp hf E ws _ _
        · exact lcGo_ind hg hp hf E ws _ _
      · rfl
theorem ind_lc {it it2 : II} {tg : Tg} {p q : IT} {own : List Nat} (h : IndI i x y it it2) (hg : IndG i tg) (hp : IndT i x y p q) (hf : IndE i x y f g) (ho : i ∉ own) : IndL i x y (lLC it tg p f own) (lLC it2 tg q g own) := fun e st => by
  simp only [lLC, h e st, wipe_set ho]
  congr 1; funext I s
  exact lcGo_ind hg hp hf _ _ _ _
theorem ind_skip : IndS i x y sSkip sSkip := fun e st => ⟨e, rfl, rfl⟩
theorem ind_set {j : Nat} (hj : i ≠ j) (h : IndE i x y f g) : IndS i x y (sSet j f) (sSet j g) := fun e st => by
  simp only [sSet, h e st]
  cases g (e.set i (some y)) st with
  | ok w s => exact ⟨List.set e j (some w), by rw [List.set_comm _ _ hj], by show RS.nx _ _ = _; rw [List.set_comm _ _ hj]⟩
  | exc z s => exact ⟨_, rfl⟩
  | stuck => rfl
theorem ind_ret (h : IndE i x y f g) : IndS i x y (sRet f) (sRet g) := fun e st => by
  simp only [sRet, h e st]
  cases g (e.set i (some y)) st with
  | ok w s => rfl
  | exc z s => exact ⟨_, rfl⟩
  | stuck => rfl
theorem ind_drop (h : IndE i x y f g) : IndS i x y (sDrop f) (sDrop g) := fun e st => by
  simp only [sDrop, h e st]
  cases g (e.set i (some y)) st with
  | ok w s => exact ⟨e, rfl, rfl⟩
  | exc z s => exact ⟨_, rfl⟩
  | stuck => rfl
theorem ind_seq {A B A2 B2 : IS} (h1 : IndS i x y A A2) (h2 : IndS i x y B B2) : IndS i x y (sSeq A B) (sSeq A2 B2) := fun e st => by
  have q := h1 e st
  simp only [sSeq]
  revert q
  cases A (e.set i (some x)) st with
  | nx e1 s1 => rintro ⟨e2, rfl, q⟩; simp only [q]; exact h2 e2 s1
  | brk e1 s1 => rintro ⟨e2, rfl, q⟩; simp only [q]; exact ⟨e2, rfl, rfl⟩
  | cnt e1 s1 => rintro ⟨e2, rfl, q⟩; simp only [q]; exact ⟨e2, rfl, rfl⟩
  | ret w s1 => intro q; have q : _ = _ := q; simp only [q]; rfl
  | exc z e1 s1 => rintro ⟨e2, q⟩; simp only [q]; exact ⟨e2, rfl⟩
  | stuck => intro q; have q : _ = _ := q; simp only [q]; rfl
theorem ind_if {p q : IT} {A B A2 B2 : IS} (h0 : IndT i x y p q) (h1 : IndS i x y A A2) (h2 : IndS i x y B B2) : IndS i x y (sIf p A B) (sIf q A2 B2) := fun e st => by
  simp only [sIf, h0 e st]
  cases q (e.set i (some y)) st with
  | ok c s => cases c <;> simp only [Bool.false_eq_true, if_false, if_true] <;> first | exact h1 e s | exact h2 e s
  | exc z s => exact ⟨_, rfl⟩
  | stuck => rfl
theorem RInd.wipe {r1 r2 : RS} (h : RInd i x y r1 r2) : r1.wipe i = r2.wipe i := by
  revert h
  cases r1 with
  | nx e s => rintro ⟨e2, rfl, rfl⟩; simp [RS.wipe]
  | brk e s => rintro ⟨e2, rfl, rfl⟩; simp [RS.wipe]
  | cnt e s => rintro ⟨e2, rfl, rfl⟩; simp [RS.wipe]
  | ret w s => intro h; have h : r2 = _ := h; rw [h]
  | exc z e s => rintro ⟨e2, rfl⟩; rfl
  | stuck => intro h; have h : r2 = _ := h; rw [h]
variable {c : Ctx} {G : GG} {X : Ex → Prop} {rest : IS}
def GTA (G : GG) (subs : List String) (Dh : Ctx) (PH : Ex → Prop) : GG := { G with exc := fun x e s => if subs.contains x.c = true then Cx Dh e s ∧ PH x else G.exc x e s }
def GHA (G : GG) : GG := { G with brk := fun _ _ => False, cnt := fun _ _ => False, exc := fun _ _ _ => False }
theorem GHA.xx : GX c (GHA G) (fun _ => False) := fun _ _ _ _ h _ => h
theorem GR.ta {en : α → W} {st0 : Store} {Q : α → Prop} {subs : List String} {Dh : Ctx} {PH : Ex → Prop} (h : GR st0 G en Q) : GR st0 (GTA G subs Dh PH) en Q := h
theorem GR.ha {en : α → W} {st0 : Store} {Q : α → Prop} (h : GR st0 G en Q) : GR st0 (GHA G) en Q := h
def hndA (subs : List String) (PH : Ex → Prop) (X : Ex → Prop) : Ex → Prop := fun x => if subs.contains x.c = true then PH x else X x
theorem GX.ta {subs : List String} {Dh : Ctx} {PH : Ex → Prop} (h : GX c G X) (hw : Wk c Dh) : GX c (GTA G subs Dh PH) (hndA subs PH X) := fun x env s hc hx hb => by
  unfold hndA at hx
  simp only [GTA]
  split
  · rename_i q; rw [if_pos q] at hx; exact ⟨hc.wk hw, hx⟩
  · rename_i q; rw [if_neg q] at hx; exact h x env s hc hx hb
def trAT (subs : List String) (PH : Ex → Prop) (fB : (Ex → Prop) → Prop) (X : Ex → Prop) : Prop := fB (hndA subs PH X)
theorem y_tryAs {D : ν → σ → Ctx} {Dh : Ctx} {subs : List String} {i : Nat} {β' : IS} {ς : Nat → Option Nat → String → IS} {fB : (σ → Prop) → (Ex → Prop) → Prop} {fH : (σ → Prop) → Ex → Prop} {K : σ → Prop}
    (hb : ∀ k, SS c (GTA (GJ G D k) subs Dh (fH k)) β' (fB k (hndA subs (fH k) X)))
    (hi : ∀ (z : Ex) a (d : Option Nat), d.isSome = z.d.isSome → IndS i (exvW a d z) (exvW 0 (exd0 z) z) (ς a d z.c) (ς 0 (exd0 z) z.c)) (hD : ∀ v s, (D v s).pat[i]? = some none)
    (hh : ∀ k z, SS { Dh with pat := Dh.pat.set i (some (exvW 0 (exd0 z) z)) } (GHA (GJ G D k)) (ς 0 (exd0 z) z.c) (fH k z)) (k : ∀ v s, SS (D v s) G rest (K s)) : SS c G (sSeq (sTryAs i subs β' ς) rest) (jn K fun k => trAT subs (fH k) (fB k) X) := fun hp env st hc => by
  have h1 := hb K hp env st hc
  have fin : ∀ r : RS, (GJ G D K).ok r → G.ok (match r with | .nx e s => rest e s | r => r) := by
    intro r
    cases r <;> try exact fun h => h
    rintro ⟨v, s, h1, h2⟩
    exact k v s h2 _ _ h1
  simp only [sSeq, sTryAs]
  cases e1 : β' env st with
  | exc x e s =>
    rw [e1] at h1
    have h1 : if subs.contains x.c = true then Cx Dh e s ∧ fH K x else G.exc x e s := h1
    by_cases q : subs.contains x.c = true
    · rw [if_pos q] at h1
      simp only [if_pos q]
      obtain ⟨hcx, hH⟩ := h1
      have all : ∀ a (d : Option Nat), d.isSome = x.d.isSome → (ς a d x.c (e.set i (some (exvW a d x))) s).wipe i = (ς 0 (exd0 x) x.c (e.set i (some (exvW 0 (exd0 x) x))) s).wipe i := fun a d hd => (hi x a d hd e s).wipe
      rw [if_pos all]
      have h2 := hh K x hH _ s (hcx.pat (hcx.covv.set i (some (exvW 0 (exd0 x) x))))
      cases e2 : ς 0 (exd0 x) x.c (e.set i (some (exvW 0 (exd0 x) x))) s with
      | exc y e3 s3 => rw [e2] at h2; exact h2.elim
      | nx e3 s3 =>
        rw [e2] at h2
        obtain ⟨v, s', h3, h4⟩ := h2
        refine fin (.nx (e3.set i none) s3) ⟨v, s', ?_, h4⟩
        have h5 := h3.pat (h3.covv.set i none)
        have e5 : (D v s').pat.set i none = (D v s').pat := by
          apply List.ext_getElem?
          intro j
          by_cases hj : i = j
          · subst hj
            have := (List.getElem?_eq_some_iff.mp (hD v s')).1
            rw [List.getElem?_set_self this, hD]
          · rw [List.getElem?_set_ne hj]
        rw [e5] at h5
        exact h5
      | brk e3 s3 => rw [e2] at h2; exact h2.elim
      | cnt e3 s3 => rw [e2] at h2; exact h2.elim
      | ret e3 s3 => rw [e2] at h2; exact h2
      | stuck => rw [e2] at h2; exact h2
    · rw [if_neg q] at h1
      simp only [if_neg q]
      exact h1
  | nx e s => rw [e1] at h1; exact fin (.nx e s) h1
  | brk e s => rw [e1] at h1; exact h1
  | cnt e s => rw [e1] at h1; exact h1
  | ret e s => rw [e1] at h1; exact h1
  | stuck => rw [e1] at h1; exact h1
theorem x_isE {subs : List String} {z : Ex} (h : c.pat[i]? = some (some (exvW 0 (exd0 z) z)) := by rfl) : SG c (eIsE 0 (exd0 z) z.c subs (eVar i)) (rV nB) (pureT (subs.contains z.c)) := fun env st hc Q X ht => by
  have e1 : eIsE 0 (exd0 z) z.c subs (eVar i) env st = R.ok (W.bl (subs.contains z.c)) st := by
    simp only [eIsE, eVar, hc.cov i _ h, bind_ok]
    exact isE_val (by simp [exd0]) subs st
  rw [e1]
  exact ⟨.refl (hc.keep.pool), _, rfl, ht⟩
/-- the field f of the exception -/
def exfT (f : String) (en : α → W) (z : Ex) : PT α := fun Q _ => ∃ v, z.d = some [(f, en v)] ∧ Q v
theorem x_exF {f : String} {en : α → W} {z : Ex} (h : c.pat[i]? = some (some (exvW 0 (exd0 z) z)) := by rfl) : SG c (eExF 0 (exd0 z) z.c f (eVar i)) (rV en) (exfT f en z) := fun env st hc Q X ht => by
  obtain ⟨v, hd, hq⟩ := ht
  have e1 : eExF 0 (exd0 z) z.c f (eVar i) env st = R.ok (en v) st := by
    simp only [eExF, eVar, hc.cov i _ h, bind_ok]
    refine (exF_val (a := 0) (d := exd0 z) (z := z) (by simp [exd0]) f st).trans ?_
    rw [hd]; simp
  rw [e1]
  exact ⟨.refl (hc.keep.pool), v, rfl, hq⟩
theorem y_raiseF {en : α → W} [he : Enc en] {e : IE} {cn f : String} {t : PT α} (gx : GX c G X) (h : SG c e (rV en) t) : SS c G (sRaiseF cn f e) (t (fun v => X ⟨cn, some [(f, en v)]⟩) X) := fun hp env st hc => by
  rcases h.run gx hc hp with ⟨w, s, x, e1, k1, hc1, r1, hk⟩ | ⟨z, s, e1, g⟩
  · have r1 : w = en x := r1
    subst r1
    simp only [sRaiseF, e1]
    refine gx _ env s hc1 hk fun n => ?_
    simp [Ex.bd, he.bd]
  · simp only [sRaiseF, e1]; exact g
end M

-- T7
set_option autoImplicit false
set_option linter.all false
set_option maxRecDepth 100000
namespace M
variable {ω υ α β γ δ σ ν κ : Type} {c d : Ctx} {e a b o : IE} {es : List IE} {en : α → W} {ek : κ → W} {ev : β → W}
/-! ### how many different texts -/
def cntP [DecidableEq α] (xs : List α) : Nat → Nat
  | 0 => 0
  | i + 1 => match xs[i]? with
    | none => cntP xs i
    | some x => if x ∈ xs.take i then cntP xs i else cntP xs i + 1
def cntT [DecidableEq α] (xs : List α) : Nat := cntP xs xs.length
theorem cntP_le [DecidableEq α] (xs : List α) : ∀ i, cntP xs i ≤ i
  | 0 => Nat.le_refl _
  | i + 1 => by
    have := cntP_le xs i
    unfold cntP
    split
    · omega
    · split <;> omega
theorem cntT_lt [DecidableEq α] (xs : List α) : cntT xs < xs.length ↔ ¬ xs.Nodup := by
  have key : ∀ i, i ≤ xs.length → (cntP xs i = i ↔ (xs.take i).Nodup) := by
    intro i
    induction i with
    | zero => intro _; simp [cntP]
    | succ i ih =>
      intro h
      have ih := ih (by omega)
      have hi : i < xs.length := by omega
      unfold cntP
      rw [List.getElem?_eq_getElem hi, List.take_succ_eq_append_getElem hi]
      simp only
      have le := cntP_le xs i
      rw [List.nodup_append]
      by_cases hm : xs[i] ∈ xs.take i
      · rw [if_pos hm]
        constructor
        · intro h; omega
        · rintro ⟨_, _, h⟩; exact absurd rfl (h _ hm _ (by simp))
      · rw [if_neg hm]
        constructor
        · intro h
          refine ⟨ih.1 (by omega), by simp, ?_⟩
          intro x hx y hy
          simp at hy; subst hy
          rintro rfl; exact hm hx
        · rintro ⟨h, _, _⟩; rw [ih.2 h]
  have := key xs.length (Nat.le_refl _)
  rw [List.take_length] at this
  have le := cntP_le xs xs.length
  unfold cntT
  constructor
  · intro h hn; have := this.2 hn; omega
  · intro h
    by_cases g : cntP xs xs.length = xs.length
    · exact absurd (this.1 g) h
    · omega
theorem cntN_map (xs : List Cs) : ∀ i, i ≤ xs.length → cntN (xs.map fun s => s.map Char.toNat) i = cntP xs i
  | 0, _ => rfl
  | i + 1, h => by
    have hi : i < xs.length := by omega
    have ih := cntN_map xs i (by omega)
    unfold cntN cntP
    rw [ih, List.getElem?_eq_getElem hi]
    have e1 : (xs.map fun s => s.map Char.toNat).getD i [] = xs[i].map Char.toNat := by
      rw [List.getD_eq_getElem?_getD, List.getElem?_eq_getElem (by simpa using hi)]; simp
    have e2 : (((xs.map fun s => s.map Char.toNat).take i).contains (xs[i].map Char.toNat) = true) ↔ xs[i] ∈ xs.take i := by
      rw [List.contains_iff_mem, ← List.map_take, List.mem_map]
      constructor
      · rintro ⟨y, hy, e⟩; rw [← (map_toNat_inj _ _).1 e]; exact hy
      · intro h; exact ⟨_, h, rfl⟩
    rw [e1]
    simp only
    by_cases g : xs[i] ∈ xs.take i
    · rw [if_pos (e2.2 g), if_pos g]
    · rw [if_neg (fun h => g (e2.1 h)), if_neg g]
theorem strsOf_map (xs : List Cs) : strsOf (xs.map nC) = some (xs.map fun s => s.map Char.toNat) := by
  induction xs with
  | nil => rfl
  | cons x xs ih => simp only [List.map_cons, nC, strsOf] at ih ⊢; rw [ih]; rfl
theorem x_lenSet {t : PT (List Cs)} (h : SG c e (rS nC) t) : SG c (eLenSet e) (rV nI) (bindT t fun x => grdT (x.length < 4000) (cntT x : Int)) := fun env st hc Q X ht =>
  OkG.bind (h env st hc _ X ht) fun w s x k1 h1 hx => by
    simp only [seqOf_rS h1, Option.bind_some, strsOf_map, List.length_map]
    rw [if_pos hx.1]
    have := cntN_map x x.length (Nat.le_refl _)
    rw [this]
    exact okV (en := nI) k1.pool _ hx.2
/-! ### two fors -/
def lc2In {β γ : Type} (c1 : β → PT Bool) (e : β → PT γ) : List β → List γ → PT (List γ)
  | [], acc => pureT acc
  | y :: r, acc => fun Q X => c1 y (fun b => if b = true then e y (fun z => acc.length < lim ∧ lc2In c1 e r (acc ++ [z]) Q X) (fun _ => False) else lc2In c1 e r acc Q X) (fun _ => False)
def lc2Out {α β γ : Type} (c : α → PT Bool) (ys : α → PT (List β)) (c1 : α → β → PT Bool) (e : α → β → PT γ) : List α → List γ → PT (List γ)
  | [], acc => pureT acc
  | x :: r, acc => fun Q X => c x (fun b => if b = true then ys x (fun l => lc2In (c1 x) (e x) l acc (fun acc' => lc2Out c ys c1 e r acc' Q X) (fun _ => False)) (fun _ => False) else lc2Out c ys c1 e r acc Q X) (fun _ => False)
def lc2T {α β γ : Type} (xs : List α) (c : α → PT Bool) (ys : α → PT (List β)) (c1 : α → β → PT Bool) (e : α → β → PT γ) : PT (List γ) := lc2Out c ys c1 e xs []
theorem x_lc2 {en2 : β → W} {en3 : γ → W} {it it1 : II} {g g1 : Tg} {tst tst1 : IT} {elt : IE} {own own1 : List Nat} {pins : List Nat} {pins1 : α → List Nat} {f : α → Env → Env} {f1 : β → Env → Env} {tx : PT (List α)} {tc : α → PT Bool} {ty : α → PT (List β)} {tc1 : α → β → PT Bool} {te : α → β → PT γ}
    (hi : SG c it (rI c.st0.length pins en) tx) (hg : TGt g en f)
    (ht : ∀ x, SG ⟨c.st0, f x (wipeE c.pat own), c.ns, c.cs⟩ tst rB (tc x)) (hi1 : ∀ x, SG ⟨c.st0, f x (wipeE c.pat own), c.ns, c.cs⟩ it1 (rI c.st0.length (pins1 x) en2) (ty x)) (hg1 : TGt g1 en2 f1)
    (ht1 : ∀ x y, SG ⟨c.st0, f1 y (wipeE (f x (wipeE c.pat own)) own1), c.ns, c.cs⟩ tst1 rB (tc1 x y)) (he : ∀ x y, SG ⟨c.st0, f1 y (wipeE (f x (wipeE c.pat own)) own1), c.ns, c.cs⟩ elt (rV en3) (te x y)) :
    SG c (lLC2 it g tst it1 g1 tst1 elt own own1) (rLs en3) (bindT tx fun xs => lc2T xs tc ty tc1 te) := fun env st hc Q X h => by
  unfold lLC2
  refine OkG.bind (hi env st hc _ X h) fun I s xs k1 ⟨r1, r2, r3, r4⟩ hx => ?_
  have hc1 := hc.keeps k1
  -- the second source
  have inner : ∀ (x : α) (e2 : Env) (I1 : It) (s1 : Store) (hcx : Cx ⟨c.st0, f x (wipeE c.pat own), c.ns, c.cs⟩ e2 s1) (gd : ∀ s', Keep s1 s' → I1.guard s') (ys : List β) (s2 : Store) (acc : List γ), Keep s1 s2 → ∀ Q : List γ → Prop, lc2In (tc1 x) (te x) ys acc Q (fun _ => False) →
      OkG s2 (rLs en3) Q (fun _ => False) (lcGo I1.guard g1 tst1 elt (wipeE e2 own1) (ys.map en2) s2 (acc.map en3)) := by
    intro x e2 I1 s1 hcx gd ys
    induction ys with
    | nil =>
      intro s2 acc k2 Q q
      simp only [List.map_nil, lcGo, if_pos (gd s2 k2)]
      exact ⟨.refl ((hcx.keeps k2).pool), acc, rfl, q⟩
    | cons y ys ih =>
      intro s2 acc k2 Q q
      obtain ⟨e3, h1, h2⟩ := hg1 y _ _ (hcx.covv.wipe own1)
      have hc3 : Cx ⟨c.st0, f1 y (wipeE (f x (wipeE c.pat own)) own1), c.ns, c.cs⟩ e3 s2 := (hcx.keeps k2).pat h2
      have := ht1 x y e3 s2 hc3 _ _ q
      simp only [List.map_cons, lcGo, if_pos (gd s2 k2), h1]
      revert this
      cases tst1 e3 s2 with
      | stuck => exact fun h => h.elim
      | exc z s3 => exact fun h => h.2.1.elim
      | ok w s3 =>
        rintro ⟨k3, bb, hb, hq⟩
        have hb : w = bb := hb
        subst hb
        cases w with
        | false => exact (ih s3 acc (k2.trans k3) Q hq).keep k3
        | true =>
          have := he x y e3 s3 (hc3.keeps k3) _ _ hq
          simp only
          revert this
          cases elt e3 s3 with
          | stuck => exact fun h => h.elim
          | exc z s4 => exact fun h => h.2.1.elim
          | ok y4 s4 =>
            rintro ⟨k4, b, hb, hl, hq⟩
            have hb : y4 = en3 b := hb
            subst hb
            simp only
            rw [if_pos (by simpa using hl)]
            have := ih s4 (acc ++ [b]) ((k2.trans k3).trans k4) Q hq
            simp only [List.map_append, List.map_cons, List.map_nil] at this
            exact (this.keep k4).keep k3
  have key : ∀ (xs : List α) (s2 : Store) (acc : List γ), Keep s s2 → ∀ Q : List γ → Prop, lc2Out tc ty tc1 te xs acc Q X → OkG s2 (rLs en3) Q X (lc2Go I.guard g tst it1 g1 tst1 elt own1 (wipeE env own) (xs.map en) s2 (acc.map en3)) := by
    intro xs
    induction xs with
    | nil =>
      intro s2 acc k2 Q q
      have gd : I.guard s2 := r4 s2 fun i h0 hi => k2.old i h0 (hi.elim (fun q => Nat.lt_of_lt_of_le q r3) (r2 i))
      simp only [List.map_nil, lc2Go, if_pos gd]
      exact ⟨.refl k2.pool, acc, rfl, q⟩
    | cons x xs ih =>
      intro s2 acc k2 Q q
      have gd : I.guard s2 := r4 s2 fun i h0 hi => k2.old i h0 (hi.elim (fun q => Nat.lt_of_lt_of_le q r3) (r2 i))
      obtain ⟨e2, h1, h2⟩ := hg x _ _ (hc.covv.wipe own)
      have hc2 : Cx ⟨c.st0, f x (wipeE c.pat own), c.ns, c.cs⟩ e2 s2 := (hc1.keeps k2).pat h2
      have := ht x e2 s2 hc2 _ _ q
      simp only [List.map_cons, lc2Go, if_pos gd, h1]
      revert this
      cases tst e2 s2 with
      | stuck => exact fun h => h.elim
      | exc z s3 => exact fun h => h.2.1.elim
      | ok w s3 =>
        rintro ⟨k3, bb, hb, hq⟩
        have hb : w = bb := hb
        subst hb
        cases w with
        | false => exact (ih s3 acc (k2.trans k3) Q hq).keep k3
        | true =>
          have := hi1 x e2 s3 (hc2.keeps k3) _ _ hq
          simp only
          revert this
          cases it1 e2 s3 with
          | stuck => exact fun h => h.elim
          | exc z s4 => exact fun h => h.2.1.elim
          | ok I1 s4 =>
            rintro ⟨k4, ys, ⟨q1, q2, q3, q4⟩, hq⟩
            have hc4 := (hc2.keeps k3).keeps k4
            have := inner x e2 I1 s4 hc4 (fun s' ks => q4 s' fun i h0 hi => ks.old i h0 (hi.elim (fun q => Nat.lt_of_lt_of_le q q3) (q2 i))) ys s4 acc (.refl k4.pool) _ hq
            simp only
            rw [q1]
            revert this
            cases lcGo I1.guard g1 tst1 elt (wipeE e2 own1) (ys.map en2) s4 (acc.map en3) with
            | stuck => exact fun h => h.elim
            | exc z s5 => exact fun h => h.2.1.elim
            | ok ws s5 =>
              rintro ⟨k5, acc', hb, hq⟩
              have hb : ws = acc'.map en3 := hb
              subst hb
              simp only [bind_ok]
              have := ih s5 acc' (((k2.trans k3).trans k4).trans k5) Q hq
              exact ((this.keep k5).keep k4).keep k3
  have := key xs s [] (.refl k1.pool) Q hx
  rw [r1]
  simpa using this
/-- two fors that only look -/
theorem lc2In_pure (p1 : β → Bool) (f : β → γ) : ∀ (ys : List β) (acc : List γ) (Q : List γ → Prop) (X : Ex → Prop), acc.length + ((ys.filter p1).map f).length ≤ lim → Q (acc ++ (ys.filter p1).map f) → lc2In (fun y => pureT (p1 y)) (fun y => pureT (f y)) ys acc Q X
  | [], acc, Q, X, _, h => by simpa [lc2In] using h
  | y :: ys, acc, Q, X, hl, h => by
    simp only [lc2In, pureT_eq]
    cases hp : p1 y with
    | true =>
      simp only [if_true]
      simp [hp] at hl h
      exact ⟨by omega, lc2In_pure p1 f ys (acc ++ [f y]) Q X (by simp; omega) (by simpa using h)⟩
    | false =>
      simp only [Bool.false_eq_true, if_false]
      simp [hp] at hl h
      exact lc2In_pure p1 f ys acc Q X (by simpa using hl) h
theorem lc2Out_pure (p : α → Bool) (l : α → List β) (p1 : α → β → Bool) (f : α → β → γ) : ∀ (xs : List α) (acc : List γ) (Q : List γ → Prop) (X : Ex → Prop), acc.length + ((xs.filter p).flatMap fun x => ((l x).filter (p1 x)).map (f x)).length ≤ lim → Q (acc ++ (xs.filter p).flatMap fun x => ((l x).filter (p1 x)).map (f x)) →
    lc2Out (fun x => pureT (p x)) (fun x => pureT (l x)) (fun x y => pureT (p1 x y)) (fun x y => pureT (f x y)) xs acc Q X
  | [], acc, Q, X, _, h => by simpa [lc2Out] using h
  | x :: xs, acc, Q, X, hl, h => by
    simp only [lc2Out, pureT_eq]
    cases hp : p x with
    | true =>
      simp only [if_true]
      rw [List.filter_cons_of_pos hp, List.flatMap_cons] at hl h
      rw [List.length_append] at hl
      refine lc2In_pure (p1 x) (f x) (l x) acc _ _ (by omega) ?_
      exact lc2Out_pure p l p1 f xs _ Q X (by rw [List.length_append]; omega) (by rw [List.append_assoc]; exact h)
    | false =>
      simp only [Bool.false_eq_true, if_false]
      rw [List.filter_cons_of_neg (by simp [hp])] at hl h
      exact lc2Out_pure p l p1 f xs acc Q X hl h
theorem lc2T_pure {xs : List α} {p : α → Bool} {l : α → List β} {p1 : α → β → Bool} {f : α → β → γ} {Q : List γ → Prop} {X : Ex → Prop} (hl : ((xs.filter p).flatMap fun x => ((l x).filter (p1 x)).map (f x)).length ≤ lim) (h : Q ((xs.filter p).flatMap fun x => ((l x).filter (p1 x)).map (f x))) :
    lc2T xs (fun x => pureT (p x)) (fun x => pureT (l x)) (fun x y => pureT (p1 x y)) (fun x y => pureT (f x y)) Q X :=
  lc2Out_pure p l p1 f xs [] Q X (by simpa using hl) (by simpa using h)
theorem lc2T_map {xs : List α} {l : α → List β} {f : α → β → γ} {Q : List γ → Prop} {X : Ex → Prop} (hl : (xs.flatMap fun x => (l x).map (f x)).length ≤ lim) (h : Q (xs.flatMap fun x => (l x).map (f x))) :
    lc2T xs (fun x => pureT true) (fun x => pureT (l x)) (fun x y => pureT true) (fun x y => pureT (f x y)) Q X :=
  lc2T_pure (p := fun _ => true) (p1 := fun _ _ => true) (by simpa using hl) (by simpa using h)
/-! ### data in order -/
class OrdE (e : α → W) (lt : outParam (α → α → Bool)) (d : outParam Nat) : Prop where
  lt : ∀ a b, ltW (e a) (e b) = lt a b
  al : ∀ a b, PySem.W.alike (toP (e a)) (toP (e b)) = true
  pu : ∀ a, (e a).pure = true
  ok : ∀ a n, d ≤ n → (e a).okD n = true
  nn : ∀ a, toP (e a) ≠ .none
/-- the items of a tuple in order -/
class OrdL (l : α → List W) (lt : outParam (α → α → Bool)) (d : outParam Nat) : Prop where
  lt : ∀ a b, PyProof.Rows.lexLt PyProof.Rows.itemOrd (PySem.W.keyToksAll (toPL (l a))) (PySem.W.keyToksAll (toPL (l b))) = lt a b
  al : ∀ a b, PySem.W.alikeAll (toPL (l a)) (toPL (l b)) = true
  pu : ∀ a, pureL (l a) = true
  ok : ∀ a n, d ≤ n → okDL (l a) n = true
/-- that may be sorted: g says which lists -/
class SrtE (e : α → W) (g : outParam (List α → Prop)) : Prop where
  srt : ∀ l, g l → PySem.W.Sortable (l.map fun a => toP (e a))
def ltI (a b : Int) : Bool := decide (a < b)
def ltB (a b : Bool) : Bool := !a && b
def ltC (a b : Cs) : Bool := decide (a.map Char.toNat < b.map Char.toNat)
def lt0 (_ _ : Unit) : Bool := false
def ltP {α β : Type} [DecidableEq α] (f : α → α → Bool) (g : β → β → Bool) (a b : α × β) : Bool := if a.1 = b.1 then g a.2 b.2 else f a.1 b.1
def ltV {α : Type} [DecidableEq α] (f : α → α → Bool) : List α → List α → Bool
  | [], [] => false
  | [], _ :: _ => true
  | _ :: _, [] => false
  | x :: xs, y :: ys => if x = y then ltV f xs ys else f x y
instance : OrdE nI ltI 0 := ⟨fun a b => PySem.W.dataLt_int a b, fun _ _ => by simp [nI, toP, PySem.W.alike], fun _ => rfl, fun _ _ _ => by simp [nI], fun _ => by simp [nI, toP]⟩
instance : OrdE nB ltB 0 := ⟨fun a b => by
  have := PySem.W.dataLt_bool a b
  show PySem.W.dataLt (.bool a) (.bool b) = _
  rw [this]; cases a <;> cases b <;> decide, fun _ _ => by simp [nB, toP, PySem.W.alike], fun _ => rfl, fun _ _ _ => by simp [nB], fun _ => by simp [nB, toP]⟩
instance : OrdE nC ltC 0 := ⟨fun a b => by
  show PySem.W.dataLt (.str _) (.str _) = _
  rw [PySem.W.dataLt_str]
  unfold ltC
  congr 1
  , fun _ _ => by simp [nC, toP, PySem.W.alike], fun _ => rfl, fun a _ _ => by simp [nC]; intro x _; simpa using toNat_lt x, fun _ => by simp [nC, toP]⟩
instance (l : α → List W) {lt : α → α → Bool} {d : Nat} [h : OrdL l lt d] : OrdE (nT l) lt (d + 1) := ⟨fun a b => by
  show PySem.W.dataLt (.tuple _) (.tuple _) = _
  rw [PySem.W.dataLt_tuple, h.lt], fun a b => by simpa [nT, toP, PySem.W.alike] using h.al a b, fun a => by simpa [nT, W.pure] using h.pu a, fun a n hn => by
  cases n with
  | zero => omega
  | succ n => have := h.ok a n (by omega); simpa [nT] using this, fun _ => by simp [nT, toP]⟩
theorem eqvP_dec {e : α → W} {d : Nat} [h : Eqq e d] [DecidableEq α] (a b : α) : PySem.PyData.eqv (toP (e a)) (toP (e b)) = decide (a = b) := by
  rw [eqv_of (h.ok a d (Nat.le_refl _)) (h.ok b d (Nat.le_refl _))]
  rw [Bool.eq_iff_iff, h.eq]; simp
instance : OrdL t0 lt0 0 := ⟨fun a b => by simp [t0, toPL]; exact PyProof.Rows.lex_irrefl _, fun _ _ => by simp [t0, toPL, PySem.W.alikeAll], fun _ => rfl, fun _ _ _ => rfl⟩
instance (e : α → W) {lt : α → α → Bool} {d k : Nat} [DecidableEq α] [h : OrdE e lt d] [q : Eqq e k] : OrdL (t1 e) lt d := ⟨fun a b => by
  simp only [t1, toPL]
  rw [PySem.W.dataLt_cons (h.al a b), eqvP_dec]
  by_cases hh : a = b
  · subst hh
    simp only [decide_true, if_true]
    rw [← h.lt]
    exact (PyProof.Rows.lex_irrefl _).trans (show ltW _ _ = false from PyProof.Rows.lex_irrefl (O := PyProof.Rows.itemOrd) _).symm
  · simp only [hh, decide_false, Bool.false_eq_true, if_false]
    exact h.lt a b, fun a b => by simp [t1, toPL, PySem.W.alikeAll, h.al], fun a => by simp [t1, pureL, h.pu], fun a n hn => by simp [t1]; exact h.ok a n hn⟩
instance (e : α → W) (l : β → List W) {lt : α → α → Bool} {lt2 : β → β → Bool} {d k j : Nat} [DecidableEq α] [h : OrdE e lt d] [q : Eqq e k] [h2 : OrdL l lt2 j] : OrdL (tC e l) (ltP lt lt2) (d + j) := ⟨fun a b => by
  simp only [tC, toPL]
  rw [PySem.W.dataLt_cons (h.al _ _), eqvP_dec]
  unfold ltP
  by_cases hh : a.1 = b.1
  · simp only [hh, decide_true, if_true]
    exact h2.lt _ _
  · simp only [hh, decide_false, Bool.false_eq_true, if_false]
    exact h.lt _ _, fun a b => by simp [tC, toPL, PySem.W.alikeAll, h.al, h2.al], fun a => by simp [tC, pureL, h.pu, h2.pu], fun a n hn => by
    have h1 := h.ok a.1 n (by omega)
    have h2 := h2.ok a.2 n (by omega)
    simp [tC] at h2 ⊢; exact ⟨h1, h2⟩⟩
instance (e : α → W) {lt : α → α → Bool} {d k : Nat} [DecidableEq α] [h : OrdE e lt d] [q : Eqq e k] : OrdE (nV e) (ltV lt) (d + 1) := ⟨fun a b => by
  show PySem.W.dataLt (.tuple _) (.tuple _) = _
  rw [PySem.W.dataLt_tuple]
  induction a generalizing b with
  | nil => cases b with
    | nil => simp only [List.map_nil, toPL]; exact PyProof.Rows.lex_irrefl _
    | cons y b =>
      simp only [List.map_nil, List.map_cons, toPL]
      rw [PySem.W.toks_all_cons]
      simp only [PySem.W.keyToksAll]
      rw [PyProof.Rows.lex_diff (O := PyProof.Rows.itemOrd) (by simp)]
      rfl
  | cons x a ih => cases b with
    | nil =>
      simp only [List.map_nil, List.map_cons, toPL]
      rw [PySem.W.toks_all_cons]
      simp only [PySem.W.keyToksAll]
      rw [PyProof.Rows.lex_diff (O := PyProof.Rows.itemOrd) (by simp)]
      rfl
    | cons y b =>
      simp only [List.map_cons, toPL]
      rw [PySem.W.dataLt_cons (h.al x y), eqvP_dec]
      unfold ltV
      by_cases hh : x = y
      · simp only [hh, decide_true, if_true]; exact ih b
      · simp only [hh, decide_false, Bool.false_eq_true, if_false]; exact h.lt x y, fun a b => by
    simp only [nV, toP, PySem.W.alike]
    induction a generalizing b with
    | nil => simp [toPL, PySem.W.alikeAll]
    | cons x a ih => cases b with
      | nil => simp [toPL, PySem.W.alikeAll]
      | cons y b => simp [toPL, PySem.W.alikeAll, h.al, ih], fun a => by
    simp only [nV, W.pure]
    induction a with
    | nil => rfl
    | cons x a ih => simp [pureL, h.pu, ih], fun a n hn => by
    cases n with
    | zero => omega
    | succ n => simp [nV]; intro x _; exact h.ok x n (by omega), fun _ => by simp [nV, toP]⟩
instance : SrtE nI (fun _ => True) := ⟨fun l _ => .inr fun d hd => by
  obtain ⟨a, _, rfl⟩ := List.mem_map.1 hd
  exact ⟨by simp [nI, toP], fun xs => by simp [nI, toP]⟩⟩
instance : SrtE nB (fun _ => True) := ⟨fun l _ => .inr fun d hd => by
  obtain ⟨a, _, rfl⟩ := List.mem_map.1 hd
  exact ⟨by simp [nB, toP], fun xs => by simp [nB, toP]⟩⟩
instance : SrtE nC (fun _ => True) := ⟨fun l _ => .inr fun d hd => by
  obtain ⟨a, _, rfl⟩ := List.mem_map.1 hd
  exact ⟨by simp [nC, toP], fun xs => by simp [nC, toP]⟩⟩
instance (e : α → W) (l : β → List W) : SrtE (nT (tC e l)) (fun _ => True) := ⟨fun q _ => .inl fun d hd => by
  obtain ⟨a, _, rfl⟩ := List.mem_map.1 hd
  exact ⟨_, _, by simp [nT, tC, toP, toPL]; exact ⟨rfl, rfl⟩⟩⟩
instance (e : α → W) : SrtE (nV e) (fun l => ∀ x ∈ l, x ≠ []) := ⟨fun q hq => .inl fun d hd => by
  obtain ⟨a, ha, rfl⟩ := List.mem_map.1 hd
  cases a with
  | nil => exact absurd rfl (hq _ ha)
  | cons x r => exact ⟨_, _, by simp [nV, toP, toPL]; exact ⟨rfl, rfl⟩⟩⟩
def leT (lt : α → α → Bool) (a b : α) : Bool := !lt b a
def sortT (lt : α → α → Bool) (l : List α) : List α := l.mergeSort (leT lt)
theorem okD_mono : ∀ {w : W} {n m : Nat}, n ≤ m → w.okD n = true → w.okD m = true := by
  have key : ∀ (n : Nat), (∀ (w : W) (m : Nat), n ≤ m → w.okD n = true → w.okD m = true) := by
    intro n
    induction n with
    | zero =>
      intro w m h k
      cases w <;> simp_all [W.okD]
    | succ n ih =>
      intro w m h k
      obtain ⟨m, rfl⟩ : ∃ j, m = j + 1 := ⟨m - 1, by omega⟩
      have all : ∀ ws : List W, okDL ws n = true → okDL ws m = true := by
        intro ws
        induction ws with
        | nil => intro _; rfl
        | cons w ws ihl =>
          intro h
          simp only [okDL, Bool.and_eq_true] at h ⊢
          exact ⟨ih w m (by omega) h.1, ihl h.2⟩
      cases w <;> first | (simp [W.okD] at k; done) | skip
      all_goals simp only [W.okD] at k ⊢
      all_goals first | exact k | exact all _ k
  exact fun {w n m} => key n w m
theorem l_sortD' {lt : α → α → Bool} {g : List α → Prop} {dd : Nat} [h : OrdE en lt dd] [q : SrtE en g] {t : PT (List α)} (ha : SG c a (rL en) t) (hdd : dd ≤ 60 := by decide) : SG c (lSortD a) (rLs en) (bindT t fun x => grdT (g x ∧ x.length ≤ lim) (sortT lt x)) := fun env st hc Q X ht => by
  unfold lSortD
  refine OkG.bind (ha env st hc _ X ht) fun w s x k1 h1 hx => ?_
  simp only [lstOf_rL h1]
  obtain ⟨⟨hg, hl⟩, hq⟩ := hx
  have ok : OrdOk (x.map en) := by
    refine ⟨fun w hw => ?_, fun w hw u hu => ?_, ?_, by simpa using hl⟩
    · obtain ⟨a, _, rfl⟩ := List.mem_map.1 hw
      exact ⟨h.pu a, h.ok a _ hdd⟩
    · obtain ⟨a, _, rfl⟩ := List.mem_map.1 hw
      obtain ⟨b, _, rfl⟩ := List.mem_map.1 hu
      exact h.al a b
    · have := q.srt x hg
      rw [List.map_map]; exact this
  rw [if_pos ok]
  refine ⟨.refl k1.pool, sortT lt x, ?_, hq⟩
  show _ = (x.mergeSort (leT lt)).map en
  rw [List.map_mergeSort (s := leW)]
  intro a _ b _
  show (!lt b a) = leW (en a) (en b)
  rw [← h.lt]; rfl
/-- the first of the least, of the greatest -/
def exT (mx : Bool) (lt : α → α → Bool) (x : α) (r : List α) : α := r.foldl (fun a y => if (if mx = true then lt a y else lt y a) = true then y else a) x
theorem exT_map {lt : α → α → Bool} {dd : Nat} [h : OrdE en lt dd] (mx : Bool) (x : α) (r : List α) : exW mx (en x) (r.map en) = en (exT mx lt x r) := by
  unfold exW exT mxW mnW
  cases mx
  all_goals
    simp only [Bool.false_eq_true, if_false, if_true]
    induction r generalizing x with
    | nil => rfl
    | cons y r ih =>
      simp only [List.map_cons, List.foldl_cons, h.lt]
      rw [← ih]
      congr 1
      split <;> rfl
def exDT (mx : Bool) (lt : α → α → Bool) (d : α) : List α → α
  | [] => d
  | x :: r => exT mx lt x r
def exOT (mx : Bool) (lt : α → α → Bool) : List α → Option α
  | [] => none
  | x :: r => some (exT mx lt x r)
theorem min_ok {lt : α → α → Bool} {dd : Nat} [h : OrdE en lt dd] (hdd : dd ≤ 60) (x : List α) : MinOk (x.map en) := by
  refine ⟨fun w hw => ?_, fun w hw u hu => ?_⟩
  · obtain ⟨a, _, rfl⟩ := List.mem_map.1 hw
    exact ⟨h.pu a, h.ok a _ hdd, h.nn a⟩
  · obtain ⟨a, _, rfl⟩ := List.mem_map.1 hw
    obtain ⟨b, _, rfl⟩ := List.mem_map.1 hu
    exact h.al a b
/-- min(xs, default=d), max(..): of the same kind -/
theorem x_exD {lt : α → α → Bool} {dd : Nat} [h : OrdE en lt dd] {mx : Bool} {t : PT (List α)} {td : PT α} (ha : SG c a (rL en) t) (hd : SG c b (rV en) td) (hdd : dd ≤ 60 := by decide) : SG c (eExD mx a b) (rV en) (bindT t fun x => bindT td fun d => pureT (exDT mx lt d x)) := fun env st hc Q X ht => by
  unfold eExD
  refine OkG.bind (ha env st hc _ X ht) fun w s x k1 h1 hx => OkG.bind (hd env s (hc.keeps k1) _ X hx) fun w2 s2 d k2 h2 hy => ?_
  have h2 : w2 = en d := h2
  subst h2
  simp only [lstOf_rL ((rL en).stab k2 h1)]
  rw [if_pos (min_ok hdd x)]
  cases x with
  | nil => exact okV k2.pool d hy
  | cons y r =>
    simp only [List.map_cons, exT_map]
    exact okV k2.pool _ hy
/-- default=None -/
theorem x_exN {lt : α → α → Bool} {dd : Nat} [h : OrdE en lt dd] {mx : Bool} {t : PT (List α)} (ha : SG c a (rL en) t) (hdd : dd ≤ 60 := by decide) : SG c (eExD mx a (eC .non)) (rV (nO en)) (bindT t fun x => pureT (exOT mx lt x)) := fun env st hc Q X ht => by
  unfold eExD
  refine OkG.bind (ha env st hc _ X ht) fun w s x k1 h1 hx => ?_
  simp only [eC, bind_ok, lstOf_rL h1]
  rw [if_pos (min_ok hdd x)]
  cases x with
  | nil => exact ⟨.refl k1.pool, none, rfl, hx⟩
  | cons y r =>
    simp only [List.map_cons, exT_map]
    exact ⟨.refl k1.pool, some (exT mx lt y r), rfl, hx⟩
theorem x_ex1 {lt : α → α → Bool} {dd : Nat} [h : OrdE en lt dd] {mx : Bool} {t : PT (List α)} (ha : SG c a (rL en) t) (hdd : dd ≤ 60 := by decide) : SG c (eEx1 mx a) (rV en) (bindT t fun x => optT (exOT mx lt x)) := fun env st hc Q X ht => by
  unfold eEx1
  refine OkG.bind (ha env st hc _ X ht) fun w s x k1 h1 hx => ?_
  simp only [lstOf_rL h1]
  rw [if_pos (min_ok hdd x)]
  obtain ⟨z, hz, hq⟩ := hx
  cases x with
  | nil => cases hz
  | cons y r =>
    cases hz
    simp only [List.map_cons, exT_map]
    exact okV k1.pool _ hq
theorem exT_maxI (x : Int) (r : List Int) : exT true ltI x r = r.foldl max x := by
  unfold exT
  simp only [if_true]
  congr 1
  funext a y
  unfold ltI
  by_cases h : a < y
  · rw [if_pos (by simpa using h), Int.max_eq_right (by omega)]
  · rw [if_neg (by simpa using h), Int.max_eq_left (by omega)]
theorem exT_minI (x : Int) (r : List Int) : exT false ltI x r = r.foldl min x := by
  unfold exT
  simp only [Bool.false_eq_true, if_false]
  congr 1
  funext a y
  unfold ltI
  by_cases h : y < a
  · rw [if_pos (by simpa using h), Int.min_eq_right (by omega)]
  · rw [if_neg (by simpa using h), Int.min_eq_left (by omega)]
/-! ### stars in displays -/
theorem li_star {l : IL} {ta tb : PT (List α)} (ha : SG c a (rS en) ta) (hb : SG c l (rLs en) tb) : SG c (eArgsS a l) (rLs en) (bindT ta fun x => bindT tb fun y => pureT (x ++ y)) := fun env st hc Q X ht =>
  OkG.bind (ha env st hc _ X ht) fun w s x k1 h1 hx => by
    simp only [seqOf_rS h1]
    exact OkG.bind (hb env s (hc.keeps k1) _ X hx) fun w2 s2 y k2 h2 hy => ⟨.refl k2.pool, x ++ y, by rw [h2]; simp [rLs], hy⟩
theorem li_CC {l : IL} {ta : PT α} {tb : PT (List α)} (ha : SG c e (rV en) ta) (hb : SG c l (rLs en) tb) : SG c (eArgsC e l) (rLs en) (bindT ta fun x => bindT tb fun y => pureT (x :: y)) := fun env st hc Q X ht =>
  OkG.bind (ha env st hc _ X ht) fun w s x k1 h1 hx => OkG.bind (hb env s (hc.keeps k1) _ X hx) fun w2 s2 y k2 h2 hy => ⟨.refl k2.pool, x :: y, by rw [h1, h2]; rfl, hy⟩
theorem x_vecL {l : IL} {t : PT (List α)} (h : SG c l (rLs en) t) : SG c (eTupL l) (rV (nV en)) (bindT t fun x => grdT (x.length ≤ lim) x) := fun env st hc Q X ht =>
  OkG.bind (h env st hc _ X ht) fun w s x k1 h1 hx => by
    have h1 : w = x.map en := h1
    subst h1
    rw [if_pos (by simpa using hx.1)]
    exact ⟨.refl k1.pool, x, rfl, hx.2⟩
theorem l_lstL' {l : IL} {t : PT (List α)} (h : SG c l (rLs en) t) : SG c (lArgL l) (rLs en) (bindT t fun x => grdT (x.length ≤ lim) x) := fun env st hc Q X ht =>
  OkG.bind (h env st hc _ X ht) fun w s x k1 h1 hx => by
    have h1 : w = x.map en := h1
    subst h1
    rw [if_pos (by simpa using hx.1)]
    exact ⟨.refl k1.pool, x, rfl, hx.2⟩
theorem tt_star {l1 : α → List W} {l2 : β → List W} {l3 : γ → List W} {l : IL} (g : α → β → γ) {ta : PT α} {tb : PT β} (ha : SG c a (rV (nT l1)) ta) (hb : SG c l (rT l2) tb) (hg : ∀ x y, l3 (g x y) = l1 x ++ l2 y) : SG c (eArgsS a l) (rT l3) (bindT ta fun x => bindT tb fun y => pureT (g x y)) := fun env st hc Q X ht =>
  OkG.bind (ha env st hc _ X ht) fun w s x k1 h1 hx => by
    have h1 : w = .tup (l1 x) := h1
    subst h1
    simp only [seqOf_tup]
    exact OkG.bind (hb env s (hc.keeps k1) _ X hx) fun w2 s2 y k2 h2 hy => ⟨.refl k2.pool, g x y, by rw [h2]; exact (hg x y).symm, hy⟩
theorem tt_CC {l : β → List W} {il : IL} {ta : PT α} {tb : PT β} (ha : SG c e (rV en) ta) (hb : SG c il (rT l) tb) : SG c (eArgsC e il) (rT (tC en l)) (bindT ta fun x => bindT tb fun y => pureT (x, y)) := fun env st hc Q X ht =>
  OkG.bind (ha env st hc _ X ht) fun w s x k1 h1 hx => OkG.bind (hb env s (hc.keeps k1) _ X hx) fun w2 s2 y k2 h2 hy => ⟨.refl k2.pool, (x, y), by rw [h1, h2]; rfl, hy⟩
theorem x_tupL {il : IL} {l : α → List W} {t : PT α} (h : SG c il (rT l) t) (hl : ∀ x, (l x).length ≤ lim) : SG c (eTupL il) (rV (nT l)) t := fun env st hc Q X ht =>
  OkG.bind (h env st hc _ X ht) fun w s x k1 h1 hx => by
    have h1 : w = l x := h1
    subst h1
    rw [if_pos (hl x)]
    exact ⟨.refl k1.pool, x, rfl, hx⟩
/-! ### by the order of data -/
theorem cmp_ok {lt : α → α → Bool} {dd : Nat} [h : OrdE en lt dd] (hdd : dd ≤ 60) (a b : α) : CmpOk (en a) (en b) := ⟨h.pu a, h.ok a _ hdd, h.pu b, h.ok b _ hdd, h.al a b, h.nn a⟩
theorem o_ltD {lt : α → α → Bool} {dd : Nat} [h : OrdE en lt dd] (hdd : dd ≤ 60 := by decide) : Op2 (rV en) (rV en) opLtD (rV nB) fun x y => pureT (lt x y) := by
  rintro s _ _ x y hp rfl rfl Q X hq
  simp only [opLtD, opCD, if_pos (cmp_ok hdd x y), h.lt]
  exact okV (en := nB) hp _ hq
theorem o_gtD {lt : α → α → Bool} {dd : Nat} [h : OrdE en lt dd] (hdd : dd ≤ 60 := by decide) : Op2 (rV en) (rV en) opGtD (rV nB) fun x y => pureT (lt y x) := by
  rintro s _ _ x y hp rfl rfl Q X hq
  simp only [opGtD, opCD, if_pos (cmp_ok hdd x y), h.lt]
  exact okV (en := nB) hp _ hq
theorem o_leD {lt : α → α → Bool} {dd : Nat} [h : OrdE en lt dd] (hdd : dd ≤ 60 := by decide) : Op2 (rV en) (rV en) opLeD (rV nB) fun x y => pureT (!lt y x) := by
  rintro s _ _ x y hp rfl rfl Q X hq
  simp only [opLeD, opCD, if_pos (cmp_ok hdd x y), h.lt]
  exact okV (en := nB) hp _ hq
theorem o_geD {lt : α → α → Bool} {dd : Nat} [h : OrdE en lt dd] (hdd : dd ≤ 60 := by decide) : Op2 (rV en) (rV en) opGeD (rV nB) fun x y => pureT (!lt x y) := by
  rintro s _ _ x y hp rfl rfl Q X hq
  simp only [opGeD, opCD, if_pos (cmp_ok hdd x y), h.lt]
  exact okV (en := nB) hp _ hq
/-! ### isinstance of a value by its type -/
/-- the kinds of a thing -/
class Isi (e : α → W) (nm : outParam (α → String)) : Prop where
  is : ∀ s a, tyOf s (e a) = some (nm a)
instance : Isi nI (fun _ => "int") := ⟨fun _ _ => rfl⟩
instance : Isi nB (fun _ => "bool") := ⟨fun _ _ => rfl⟩
instance : Isi nC (fun _ => "str") := ⟨fun _ _ => rfl⟩
instance (e : α → W) : Isi (nV e) (fun _ => "tuple") := ⟨fun _ _ => rfl⟩
instance (l : α → List W) : Isi (nT l) (fun _ => "tuple") := ⟨fun _ _ => rfl⟩
instance (e : α → W) : Isi (nL e) (fun _ => "list") := ⟨fun _ _ => rfl⟩
instance (e : α → W) {nm : α → String} [h : Isi e nm] : Isi (nO e) (fun x => match x with | none => "NoneType" | some a => nm a) := ⟨fun s a => by
  cases a with
  | none => rfl
  | some a => exact h.is s a⟩
theorem x_isi {T : String} {nm : α → String} [h : Isi en nm] {t : PT α} (ha : SG c e (rV en) t) : SG c (eIsi T e) (rV nB) (bindT t fun a => pureT (isT (nm a) T)) := fun env st hc Q X ht => by
  unfold eIsi
  refine OkG.bind (ha env st hc _ X ht) fun w s x k1 h1 hx => ?_
  have h1 : w = en x := h1
  subst h1
  simp only [h.is]
  exact okV (en := nB) k1.pool _ hx
/-! ### range(i, j, -1) -/
def rangeDT (lo hi : Int) : List Int := (List.range (lo - hi).toNat).map fun k : Nat => lo - (k : Int)
theorem i_range3 {a b d : IE} {t u v : PT Int} (h : SG c a (rV nI) t) (k : SG c b (rV nI) u) (q : SG c d (rV nI) v) : SG c (iRangeD [a, b, d]) (rI c.st0.length [] nI) (bindT t fun i => bindT u fun j => bindT v fun l => grdT (l = -1 ∧ inR i ∧ inR j) (rangeDT i j)) := fun env st hc Q X ht => by
  have := OkG.bind (r2 := rI c.st0.length [] nI) (Q := Q) (f := fun w s => (b env s).bind fun v s => (d env s).bind fun u s => itDown [w, v, u] s) (h env st hc _ X ht) fun w s x k1 h1 hx => OkG.bind (k env s (hc.keeps k1) _ X hx) fun v s2 y k2 h2 hy => OkG.bind (q env s2 ((hc.keeps k1).keeps k2) _ X hy) fun u s3 z k3 h3 hz => by
    have h1 : w = .int x := h1
    have h2 : v = .int y := h2
    have h3 : u = .int z := h3
    subst h1; subst h2; subst h3
    simp only [itDown, if_pos hz.1]
    exact ⟨.refl k3.pool, rangeDT x y, ⟨by simp [rangeDT, downTo, nI], fun n h => absurd h (by simp), (((hc.keeps k1).keeps k2).keeps k3).ge, fun _ _ => trivial⟩, hz.2⟩
  simp only [iRangeD, eArgs]
  revert this
  cases e1 : a env st with
  | ok w s =>
    simp only [bind_ok]
    cases e2 : b env s with
    | ok w2 s2 => simp only [bind_ok]; cases d env s2 <;> exact fun h => h
    | exc x s => exact fun h => h
    | stuck => exact fun h => h
  | exc x s => exact fun h => h
  | stuck => exact fun h => h
/-! ### xs * k -/
def repT (k : Int) (x : List α) : List α := (List.replicate k.toNat x).flatten
theorem repT_map (f : α → β) (k : Int) (x : List α) : (List.replicate k.toNat (x.map f)).flatten = (repT k x).map f := by
  unfold repT
  rw [List.map_flatten, List.map_replicate]
theorem repT_one (k : Int) (x : α) : repT k [x] = List.replicate k.toNat x := by
  unfold repT
  induction k.toNat with
  | zero => rfl
  | succ n ih => simp [List.replicate_succ, ih]
theorem l_rep' {t : PT (List α)} {u : PT Int} (ha : SG c a (rL en) t) (hb : SG c b (rV nI) u) : SG c (lRep a b) (rLs en) (bindT t fun x => bindT u fun k => grdT (inR k ∧ x.length * k.toNat ≤ lim) (repT k x)) := fun env st hc Q X ht => by
  unfold lRep
  refine OkG.bind (ha env st hc _ X ht) fun w s x k1 h1 hx => OkG.bind (hb env s (hc.keeps k1) _ X hx) fun w2 s2 k k2 h2 hy => ?_
  have h2 : w2 = .int k := h2
  subst h2
  have hh : inR k ∧ (x.map en).length * k.toNat ≤ lim := by simpa using hy.1
  simp only [lstOf_rL ((rL en).stab k2 h1), if_pos hh]
  exact ⟨.refl k2.pool, repT k x, repT_map en k x, hy.2⟩
theorem o_isNU : Op2 (rV nU) (rV nU) opIsN (rV nB) fun _ _ => pureT true := by rintro s _ _ x y hp rfl rfl Q X h; exact okV (en := nB) hp _ h
theorem o_notNU : Op2 (rV nU) (rV nU) opNotN (rV nB) fun _ _ => pureT false := by rintro s _ _ x y hp rfl rfl Q X h; exact okV (en := nB) hp _ h
/-! ### xs.pop(k) -/
def popT (xs : List α) (j : Int) (K : α → List α → Prop) : Prop := inR j ∧ ∃ (i : Nat) (x : α), ixW xs.length j = some i ∧ xs[i]? = some x ∧ K x (xs.eraseIdx i)
theorem y_pop {G : GG} {X : Ex → Prop} {rest : IS} {st0 : Store} {pat : Env} {ns : List Nat} {cs : List Cell} {i : Nat} (k : Nat) {n : Nat} {xs : List α} {tj : PT Int} {K : α → List α → Prop} (gx : GX ⟨st0, pat, ns, cs⟩ G X) (hj : SG ⟨st0, pat, ns, cs⟩ b (rV nI) tj) (kk : ∀ u ys, SS ⟨st0, pat, ns, cs.set k (.lst (ys.map en))⟩ G rest (K u ys))
    (h : pat[i]? = some (some (.loc n)) := by rfl) (h1 : ns[k]? = some n := by rfl) (h2 : cs[k]? = some (.lst (xs.map en)) := by rfl) : SS ⟨st0, pat, ns, cs⟩ G (sSeq (sDrop (eBm "list" mPop (eVar i) [b])) rest) (tj (fun j => popT xs j K) X) := fun hp env st hc => by
  obtain ⟨q1, q2⟩ := hc.cell h1 h2
  have ty : tyM st "list" (.loc n) = true := by simp [q2]
  rcases hj.run gx hc hp with ⟨w, s, j, e1, k1, hc1, r1, hk⟩ | ⟨z, s, e1, g⟩
  · have r1 : w = .int j := r1
    subst r1
    obtain ⟨q3, q4⟩ := hc1.cell h1 h2
    obtain ⟨hr, m, x, e2, e3, hk⟩ := hk
    have e4 : ((xs.map en))[m]? = some (en x) := by rw [List.getElem?_map, e3]; rfl
    simp only [sSeq, sDrop, eBm, eVar, hc.cov i _ h, bind_ok, ty, if_true, eArgs, e1, mPop, q4, if_pos hr, List.length_map, e2, e4]
    have := hc1.put h1 h2 (.lst ((xs.eraseIdx m).map en))
    have := kk _ _ hk _ _ this
    have em : (xs.map en).eraseIdx m = (xs.eraseIdx m).map en := by simp [List.eraseIdx_eq_take_drop_succ, List.map_take, List.map_drop]
    rw [em]
    exact this
  · simp only [sSeq, sDrop, eBm, eVar, hc.cov i _ h, bind_ok, ty, if_true, eArgs, e1, bind_exc]; exact g
/-! ### dicts compared -/
def DSame [DecidableEq κ] (d e : List (κ × β)) : Prop := d.length = e.length ∧ ∀ p ∈ d, dGet e p.1 = some p.2
theorem dSame_W [DecidableEq κ] [h : KeyE ek] [f : Flat ev] {d e : List (κ × β)} (q : DSame d e) : DctSame (d.map (enP ek ev)) (e.map (enP ek ev)) := by
  refine ⟨by simpa using q.1, fun p hp => ?_⟩
  obtain ⟨x, hx, rfl⟩ := List.mem_map.1 hp
  refine ⟨?_, f.fl _⟩
  show getD _ (ek x.1) = some (ev x.2)
  rw [getD_map, q.2 x hx]; rfl
theorem o_eqDct [DecidableEq κ] [h : KeyE ek] [f : Flat ev] : Op2 (rD ek ev) (rD ek ev) (opDSame true) (rV nB) fun d e => grdT (DSame d e) true := by
  rintro s _ _ d e hp h1 h2 Q X ⟨q1, q2⟩
  simp only [opDSame, dctOf_rD h1, dctOf_rD h2, if_pos (dSame_W (ek := ek) (ev := ev) q1)]
  exact okV (en := nB) hp _ q2
theorem o_neDct [DecidableEq κ] [h : KeyE ek] [f : Flat ev] : Op2 (rD ek ev) (rD ek ev) (opDSame false) (rV nB) fun d e => grdT (DSame d e) false := by
  rintro s _ _ d e hp h1 h2 Q X ⟨q1, q2⟩
  simp only [opDSame, dctOf_rD h1, dctOf_rD h2, if_pos (dSame_W (ek := ek) (ev := ev) q1)]
  exact okV (en := nB) hp _ q2
/-! ### ranges as values -/
def nG (p : Int × Int) : W := .rng p.1 p.2
instance : Enc nG := ⟨fun _ _ => by simp [nG], fun _ => rfl⟩
theorem x_rng1 {t : PT Int} (h : SG c a (rV nI) t) : SG c (eB bRng1 [a]) (rV nG) (bindT t fun j => grdT (inR j) (0, j)) := fun env st hc Q X ht => by
  simp only [eB, eArgs]
  refine OkG.bind (OkG.bind (r2 := rCons (rV nI) rNil) (Q := fun p => inR p.1 ∧ Q (0, p.1)) (h env st hc _ X ht) fun w s x k1 h1 hx => ⟨.refl k1.pool, (x, ()), ⟨w, [], rfl, h1, rfl⟩, hx⟩) fun ws s p k1 h1 hx => ?_
  obtain ⟨w, _, rfl, h1, rfl⟩ := h1
  have h1 : w = .int p.1 := h1
  subst h1
  simp only [bRng1, if_pos hx.1]
  exact ⟨.refl k1.pool, (0, p.1), rfl, hx.2⟩
/-- a walk over it -/
theorem i_rngV {t : PT (Int × Int)} (h : SG c e (rV nG) t) : SG c (iRngV e) (rI c.st0.length [] nI) (bindT t fun p => grdT (inR p.1 ∧ inR p.2) (rangeT p.1 p.2)) := fun env st hc Q X ht => by
  unfold iRngV
  refine OkG.bind (h env st hc _ X ht) fun w s p k1 h1 hx => ?_
  have h1 : w = .rng p.1 p.2 := h1
  subst h1
  simp only [itRngV, if_pos hx.1]
  exact ⟨.refl k1.pool, rangeT p.1 p.2, ⟨by simp [rangeT, upTo, nI], fun n h => absurd h (by simp), (hc.keeps k1).ge, fun _ _ => trivial⟩, hx.2⟩
/-! ### in, over lists of data -/
theorem okDL_map {d : Nat} [h : Eqq en d] (n : Nat) (hn : d ≤ n) : ∀ xs : List α, okDL (xs.map en) n = true
  | [] => rfl
  | x :: xs => by simp only [List.map_cons, okDL, h.ok x n hn, okDL_map n hn xs, Bool.and_self]
theorem any_eqvT {d : Nat} [h : Eqq en d] (x : α) (y : List α) {i : Decidable (x ∈ y)} : ((y.map en).any fun z => z.eqv (en x)) = @decide (x ∈ y) i := by
  rw [Bool.eq_iff_iff]
  simp [h.eq]
theorem o_inL {d : Nat} [h : Eqq en d] {i : ∀ (x : α) (y : List α), Decidable (x ∈ y)} (hd : d ≤ 60 := by decide) : Op2 (rV en) (rL en) (opInL false) (rV nB) fun x y => pureT (@decide (x ∈ y) (i x y)) := by
  rintro s _ w2 x y hp rfl h2 Q X q
  have c : (en x).okD 64 = true ∧ okDL (y.map en) 60 = true := ⟨h.ok x 64 (by omega), okDL_map 60 hd y⟩
  simp only [opInL, lstOf_rL h2, if_pos c, Bool.false_eq_true, if_false, any_eqvT x y (i := i x y)]
  exact okV (en := nB) hp _ q
theorem o_ninL {d : Nat} [h : Eqq en d] {i : ∀ (x : α) (y : List α), Decidable (x ∈ y)} (hd : d ≤ 60 := by decide) : Op2 (rV en) (rL en) (opInL true) (rV nB) fun x y => pureT (!@decide (x ∈ y) (i x y)) := by
  rintro s _ w2 x y hp rfl h2 Q X q
  have c : (en x).okD 64 = true ∧ okDL (y.map en) 60 = true := ⟨h.ok x 64 (by omega), okDL_map 60 hd y⟩
  simp only [opInL, lstOf_rL h2, if_pos c, if_true, any_eqvT x y (i := i x y)]
  exact okV (en := nB) hp _ q
/-! ### lists of one length, items of many kinds -/
def nH (l : α → List W) (a : α) : W := .lst (l a)
instance (l : α → List W) [h : EncL l] : Enc (nH l) := ⟨fun a n => by have := h.bd a n; simpa [nH] using this, fun _ => rfl⟩
instance (l : α → List W) : Isi (nH l) (fun _ => "list") := ⟨fun _ _ => rfl⟩
theorem x_lstH {l : α → List W} {t : PT α} (h : SG c (eArgs es) (rT l) t) : SG c (eLst (eArgs es)) (rV (nH l)) t := fun env st hc Q X ht =>
  OkG.bind (h env st hc _ X ht) fun w s x k1 h1 hx => ⟨.refl k1.pool, x, by rw [h1]; rfl, hx⟩
theorem o_ixH {k : Nat} {l : α → List W} {g : α → β} {e2 : β → W} (hi : Ix k l g e2) {ta : PT α} (ha : SG c a (rV (nH l)) ta) : SG c (eOp opIx a (eC (.int (k : Int)))) (rV e2) (bindT ta fun x => pureT (g x)) := fun env st hc Q X ht =>
  OkG.bind (ha env st hc _ X ht) fun w s x k1 h1 hx => by
    have h1 : w = .lst (l x) := h1
    subst h1
    have := hi.at_ x
    have hl := (List.getElem?_eq_some_iff.mp this).1
    simp only [eC, bind_ok, opIx, seqOf_lst, atW, ixW, Int.natCast_nonneg, if_true, Int.ofNat_lt, hl, Option.bind_some, Int.toNat_natCast, this]
    exact okV k1.pool _ hx
end M

-- T8
set_option autoImplicit false
set_option linter.all false
set_option maxRecDepth 100000
namespace M
variable {ω υ α β γ δ σ ν κ : Type} {c d : Ctx} {e a b o : IE} {es : List IE} {en : α → W} {G : GG} {X : Ex → Prop} {rest body : IS} {P : Prop}
/-! ### objects that nobody changes -/
def nOb (cn : String) (ns : List String) (l : α → List W) (x : α) : W := .ob cn ns (l x)
instance (cn : String) (ns : List String) (l : α → List W) [h : EncL l] : Enc (nOb cn ns l) := ⟨fun x n => by have := h.bd x n; simpa [nOb, W.bd] using this, fun _ => rfl⟩
instance (cn : String) (ns : List String) (l : α → List W) : NN (nOb cn ns l) := ⟨fun _ h => by simp [nOb] at h⟩
theorem x_attr {cn f : String} {ns : List String} {l : α → List W} {g : α → β} {e2 : β → W} {t : PT α} (ho : SG c o (rV (nOb cn ns l)) t) (hf : ∀ x, (ns.zip (l x)).lookup f = some (e2 (g x))) : SG c (eAttr cn f o) (rV e2) (bindT t fun x => pureT (g x)) := fun env st hc Q X ht => by
  unfold eAttr
  refine OkG.bind (ho env st hc _ X ht) fun w s x k1 h1 hx => ?_
  have h1 : w = .ob cn ns (l x) := h1
  subst h1
  simp only [fldW, if_pos, hf]
  exact okV k1.pool _ hx
theorem x_meth {cn m : String} {ns : List String} {l : α → List W} {f : Fn} {r : RR (List W) β} {r2 : RR W γ} {pf : α × β → PT γ} {t : PT α} {ta : PT β} (hf : FT f (rCons (rV (nOb cn ns l)) r) r2 pf) (ho : SG c o (rV (nOb cn ns l)) t) (ha : SG c (eArgs es) r ta) (hm : m ∉ ns := by decide) : SG c (eMeth cn m f o es) r2 (bindT t fun x => bindT ta fun y => pf (x, y)) := fun env st hc Q X ht => by
  unfold eMeth
  refine OkG.bind (ho env st hc _ X ht) fun w s x k1 h1 hx => ?_
  have h1 : w = .ob cn ns (l x) := h1
  subst h1
  have io : isObj s cn m (.ob cn ns (l x)) := ⟨rfl, hm⟩
  rw [if_pos io]
  refine OkG.bind (ha env s (hc.keeps k1) _ X hx) fun ws s2 y k2 h2 hy => ?_
  exact hf s2 (.ob cn ns (l x) :: ws) (x, y) k2.pool ⟨_, _, rfl, rfl, h2⟩ Q X hy
/-! ### objects in the making -/
/-- what an __init__ leaves -/
def FI (f : Fn) (cn : String) (ns : List String) (l : α → List W) (r : RR (List W) β) (p : β → PT α) : Prop := ∀ st ws y, PoolSt st → r.rel st ws y → ∀ Q X, p y Q X →
  OkG st (rV (nOb cn ns l)) Q X ((f (.loc st.length :: ws) (st ++ [.obj cn []])).bind fun w s2 => match w with
    | .non => frzOb (.loc st.length) s2
    | _ => .stuck)
theorem x_make {cn : String} {ns : List String} {l : α → List W} {f : Fn} {r : RR (List W) β} {p : β → PT α} {t : PT β} (hf : FI f cn ns l r p) (ha : SG c (eArgs es) r t) : SG c (eFrzO (eMake cn f es)) (rV (nOb cn ns l)) (bindT t fun y => p y) := fun env st hc Q X ht => by
  unfold eFrzO eMake
  have := OkG.bind (r2 := rV (nOb cn ns l)) (Q := Q) (f := fun ws s => (f (.loc s.length :: ws) (s ++ [.obj cn []])).bind fun w s2 => match w with
    | .non => frzOb (.loc s.length) s2
    | _ => .stuck) (ha env st hc _ X ht) fun ws s y k1 h1 hy => hf s ws y k1.pool h1 Q X hy
  revert this
  cases eArgs es env st with
  | stuck => exact fun h => h
  | exc x s => exact fun h => h
  | ok ws s =>
    simp only [bind_ok]
    cases f (.loc s.length :: ws) (s ++ [.obj cn []]) with
    | stuck => exact fun h => h
    | exc x s2 => exact fun h => h
    | ok w s2 =>
      simp only [bind_ok]
      cases w <;> exact fun h => h
def GI (st0 : Store) (cn : String) (ns : List String) (l : α → List W) (Q : α → Prop) (X : Ex → Prop) : GG :=
  ⟨fun _ s => ∃ x s', frzOb (.loc st0.length) s = .ok (.ob cn ns (l x)) s' ∧ Keep st0 s' ∧ Q x, fun _ _ => False, fun _ _ => False, fun w s => w = .non ∧ ∃ x s', frzOb (.loc st0.length) s = .ok (.ob cn ns (l x)) s' ∧ Keep st0 s' ∧ Q x, fun x _ s => Keep st0 s ∧ X x ∧ ∀ n, x.bd n = true⟩
theorem GI.x {cn : String} {ns : List String} {l : α → List W} {Q : α → Prop} : GX c (GI c.st0 cn ns l Q X) X := fun x _ s k h1 h2 => ⟨k.keep, h1, h2⟩
theorem Keep.push {st : Store} (h : PoolSt st) (x : Cell) : Keep st (st ++ [x]) := ⟨by
    obtain ⟨c, t, rfl, hp⟩ := h
    exact ⟨c, t ++ [x], rfl, hp⟩, by simp, fun i _ hi => by rw [List.getElem?_append_left hi]⟩
theorem fi_mk {n : Nat} {cn : String} {ns : List String} {l : α → List W} {r : RR (List W) β} {p : β → PT α} (h : ∀ st0 ws y, PoolSt st0 → r.rel st0 ws y → ∀ Q X, SS ⟨st0, some (.loc st0.length) :: (ws.map some ++ List.replicate (n - (ws.length + 1)) none), [st0.length], [.obj cn []]⟩ (GI st0 cn ns l Q X) body (p y Q X)) : FI (runDef n .raw body) cn ns l r p := fun st ws y h0 hr Q X hp => by
  have := h st ws y h0 hr Q X hp (some (.loc st.length) :: (ws.map some ++ List.replicate (n - (ws.length + 1)) none)) (st ++ [.obj cn []]) ⟨fun i w q => q, rfl, .push h0 _, h0, by simp, fun n hn => by rw [List.mem_singleton.1 hn]; exact Nat.le_refl _, rfl, fun k m x q1 q2 => by
    cases k with
    | zero =>
      simp at q1 q2
      subst q1; subst q2
      simp
    | succ k => simp at q1⟩
  simp only [runDef, List.map_cons, List.length_cons, List.cons_append]
  revert this
  cases body (some (.loc st.length) :: (ws.map some ++ List.replicate (n - (ws.length + 1)) none)) (st ++ [.obj cn []]) with
  | nx e s =>
    rintro ⟨x, s', e1, k, q⟩
    simp only [fin, bind_ok, e1]
    exact ⟨k, x, rfl, q⟩
  | ret w s =>
    rintro ⟨rfl, x, s', e1, k, q⟩
    simp only [fin, bind_ok, e1]
    exact ⟨k, x, rfl, q⟩
  | brk e s => exact fun h => h.elim
  | cnt e s => exact fun h => h.elim
  | exc x e s => rintro ⟨k, q1, q2⟩; exact ⟨k, q1, q2⟩
  | stuck => exact fun h => h.elim
theorem frzFs_val : ∀ {fs : List (String × W)} {s : Store}, (∀ p ∈ fs, p.2.noLoc = true) → frzFs fs s = some (fs, s)
  | [], s, _ => rfl
  | (f, w) :: r, s, h => by
    have ih := frzFs_val (fs := r) (s := s) fun p hp => h p (List.mem_cons_of_mem _ hp)
    have h1 : w.noLoc = true := h (f, w) (by simp)
    unfold frzFs
    cases w <;> first | exact Bool.noConfusion h1 | (simp only [ih, Option.map_some])
/-- at the end: the object as a thing -/
theorem y_ini {st0 : Store} {pat : Env} {nms : List Nat} {cs : List Cell} {cn : String} {ns : List String} {l : α → List W} {Q : α → Prop} {x : α} {fs : List (String × W)} (h1 : nms[0]? = some st0.length := by rfl) (h2 : cs[0]? = some (.obj cn fs) := by rfl) (hn : fs.map (·.1) = ns := by rfl) (hw : fs.map (·.2) = l x := by rfl) (hl : ∀ p ∈ fs, p.2.noLoc = true := by simp) : SS ⟨st0, pat, nms, cs⟩ (GI st0 cn ns l Q X) sSkip (Q x) := fun hp env st hc => by
  obtain ⟨q1, q2⟩ := hc.cell h1 h2
  have kp := hc.keep
  refine ⟨x, st.set st0.length .gone, ?_, ⟨?_, by simpa using kp.ge, fun i h0 hi => ?_⟩, hp⟩
  · show frzOb (.loc st0.length) st = _
    unfold frzOb
    simp only [q2, frzFs_val hl, hn, hw]
  · obtain ⟨c0, t, e, hpl⟩ := kp.pool
    have p0 := hc.p0.pos
    rw [e]
    obtain ⟨m, hm⟩ : ∃ m, st0.length = m + 1 := ⟨st0.length - 1, by have p0 : 0 < st0.length := p0; omega⟩
    rw [hm]
    exact ⟨c0, t.set m .gone, rfl, hpl⟩
  · have hi : i < st0.length := hi
    rw [List.getElem?_set_ne (by omega)]
    exact kp.old i h0 hi
/-- self.f = e -/
theorem y_setF {st0 : Store} {pat : Env} {ns : List Nat} {cs : List Cell} {i : Nat} (k : Nat) {n : Nat} {cn f : String} {fs : List (String × W)} {t : PT α} {K : α → Prop} (fs2 : α → List (String × W)) (gx : GX ⟨st0, pat, ns, cs⟩ G X) (ha : SG ⟨st0, pat, ns, cs⟩ e (rV en) t) (kk : ∀ x, SS ⟨st0, pat, ns, cs.set k (.obj cn (fs2 x))⟩ G rest (K x))
    (h : pat[i]? = some (some (.loc n)) := by rfl) (h1 : ns[k]? = some n := by rfl) (h2 : cs[k]? = some (.obj cn fs) := by rfl) (hl : fs.length < 500 := by simp) (hp : ∀ x, putW f (en x) fs = fs2 x := by intro x; simp [putW]) : SS ⟨st0, pat, ns, cs⟩ G (sSeq (sSetFld cn f (eVar i) e) rest) (t K X) := fun hp' env st hc => by
  rcases ha.run gx hc hp' with ⟨w, s, x, e1, k1, hc1, r1, hk⟩ | ⟨z, s, e1, g⟩
  · have r1 : w = en x := r1
    subst r1
    obtain ⟨q3, q4⟩ := hc1.cell h1 h2
    simp only [sSeq, sSetFld, e1, eVar, hc1.cov i _ h, setFld, q4, hl, and_self, if_true, hp]
    exact kk x hk _ _ (hc1.put h1 h2 _)
  · simp only [sSeq, sSetFld, e1]; exact g
/-- self.f, in the making -/
theorem x_attrM {cn f : String} {i : Nat} (k : Nat) {n : Nat} {fs : List (String × W)} (x : α) (h : c.pat[i]? = some (some (.loc n)) := by rfl) (h1 : c.ns[k]? = some n := by rfl) (h2 : c.cs[k]? = some (.obj cn fs) := by rfl) (hf : fs.lookup f = some (en x) := by rfl) : SG c (eAttr cn f (eVar i)) (rV en) (pureT x) := fun env st hc Q X ht => by
  obtain ⟨q1, q2⟩ := hc.cell h1 h2
  simp only [eAttr, eVar, hc.cov i _ h, bind_ok, fldW, q2, if_true, hf]
  exact okV hc.pool _ ht
/-! ### lists that an object in the making holds -/
theorem Cx.new {st0 : Store} {pat : Env} {ns : List Nat} {cs : List Cell} {env : Env} {s : Store} (hc1 : Cx ⟨st0, pat, ns, cs⟩ env s) (x : Cell) : Cx ⟨st0, pat, s.length :: ns, x :: cs⟩ env (s ++ [x]) := by
  have ks : Keep s (s ++ [x]) := ⟨by
    obtain ⟨c0, t0, rfl, h0⟩ := hc1.pool
    exact ⟨c0, t0 ++ [x], rfl, h0⟩, by simp, fun i h0 hi => by rw [List.getElem?_append_left hi]⟩
  have hc2 := hc1.keeps ks
  refine ⟨hc2.cov, hc2.len, hc2.keep, hc2.p0, ?_, ?_, by simp [hc2.lc], fun k n y h1 h2 => ?_⟩
  · refine List.nodup_cons.2 ⟨fun hm => ?_, hc1.nd⟩
    obtain ⟨j, hj⟩ := List.getElem?_of_mem hm
    have hl := (List.getElem?_eq_some_iff.mp hj).1
    have hl2 : j < cs.length := by have := hc1.lc; simp only at this; rw [← this]; exact hl
    have := hc1.at_ j _ _ hj (List.getElem?_eq_getElem hl2)
    have := (List.getElem?_eq_some_iff.mp this).1
    omega
  · intro n hn
    rcases List.mem_cons.1 hn with rfl | hn
    · exact hc1.ge
    · exact hc1.nge n hn
  · cases k with
    | zero => simp at h1 h2; subst h1; subst h2; simp
    | succ k => exact hc2.at_ k n y (by simpa using h1) (by simpa using h2)
theorem y_setFN {st0 : Store} {pat : Env} {ns : List Nat} {cs : List Cell} {i : Nat} (k : Nat) {n : Nat} {cn f : String} {fs : List (String × W)} {l : IL} {t : PT (List α)} {K : List α → Prop} (fs2 : Nat → List (String × W)) (gx : GX ⟨st0, pat, ns, cs⟩ G X) (ha : SG ⟨st0, pat, ns, cs⟩ l (rLs en) t) (kk : ∀ x m, SS ⟨st0, pat, m :: ns, .lst (x.map en) :: cs.set k (.obj cn (fs2 m))⟩ G rest (K x))
    (h : pat[i]? = some (some (.loc n)) := by rfl) (h1 : ns[k]? = some n := by rfl) (h2 : cs[k]? = some (.obj cn fs) := by rfl) (hl : fs.length < 500 := by simp) (hp : ∀ m, putW f (.loc m) fs = fs2 m := by intro x; simp [putW]) : SS ⟨st0, pat, ns, cs⟩ G (sSeq (sSetFld cn f (eVar i) (eNew l)) rest) (t K X) := fun hp' env st hc => by
  rcases ha.run gx hc hp' with ⟨w, s, x, e1, k1, hc1, r1, hk⟩ | ⟨z, s, e1, g⟩
  · have r1 : w = x.map en := r1
    subst r1
    have hc2 := hc1.new (.lst (x.map en))
    obtain ⟨q3, q4⟩ := hc2.cell (k := k + 1) (by simpa using h1) (by simpa using h2)
    simp only [sSeq, sSetFld, eNew, e1, bind_ok, eVar, hc1.cov i _ h, setFld, q4, hl, and_self, if_true, hp]
    have := hc2.put (k := k + 1) (by simpa using h1) (by simpa using h2) (.obj cn (fs2 s.length))
    exact kk x _ hk _ _ this
  · simp only [sSeq, sSetFld, eNew, e1, bind_exc]; exact g
/-- self.f.append(e) -/
theorem y_appF {st0 : Store} {pat : Env} {ns : List Nat} {cs : List Cell} {i : Nat} (k j : Nat) {n m : Nat} {cn f : String} {fs : List (String × W)} {xs : List α} {t : PT α} {K : List α → Prop} (gx : GX ⟨st0, pat, ns, cs⟩ G X) (ha : SG ⟨st0, pat, ns, cs⟩ e (rV en) t) (kk : ∀ ys, SS ⟨st0, pat, ns, cs.set j (.lst (ys.map en))⟩ G rest (K ys))
    (h : pat[i]? = some (some (.loc n)) := by rfl) (h1 : ns[k]? = some n := by rfl) (h2 : cs[k]? = some (.obj cn fs) := by rfl) (hf : fs.lookup f = some (.loc m) := by rfl) (h3 : ns[j]? = some m := by rfl) (h4 : cs[j]? = some (.lst (xs.map en)) := by rfl) : SS ⟨st0, pat, ns, cs⟩ G (sSeq (sDrop (eBm "list" mApp (eAttr cn f (eVar i)) [e])) rest) (t (fun x => appT xs x K) X) := fun hp env st hc => by
  obtain ⟨q1, q2⟩ := hc.cell h1 h2
  obtain ⟨q3, q4⟩ := hc.cell h3 h4
  have ty : tyM st "list" (.loc m) = true := by simp [q4]
  rcases ha.run gx hc hp with ⟨w, s, x, e1, k1, hc1, r1, hk⟩ | ⟨z, s, e1, g⟩
  · have r1 : w = en x := r1
    subst r1
    obtain ⟨q5, q6⟩ := hc1.cell h3 h4
    have hk1 : (xs.map en).length < lim := by simpa using hk.1
    simp only [sSeq, sDrop, eBm, eAttr, eVar, hc.cov i _ h, bind_ok, fldW, q2, if_true, hf, ty, eArgs, e1, mApp, q6, if_pos hk1]
    have := hc1.put h3 h4 (.lst ((xs ++ [x]).map en))
    have := kk _ hk.2 _ _ this
    simpa using this
  · simp only [sSeq, sDrop, eBm, eAttr, eVar, hc.cov i _ h, bind_ok, fldW, q2, if_true, hf, ty, eArgs, e1, bind_exc]; exact g
/-- self.f, a list of it -/
theorem x_attrL {cn f : String} {i : Nat} (k j : Nat) {n m : Nat} {fs : List (String × W)} {xs : List α} (h : c.pat[i]? = some (some (.loc n)) := by rfl) (h1 : c.ns[k]? = some n := by rfl) (h2 : c.cs[k]? = some (.obj cn fs) := by rfl) (hf : fs.lookup f = some (.loc m) := by rfl) (h3 : c.ns[j]? = some m := by rfl) (h4 : c.cs[j]? = some (.lst (xs.map en)) := by rfl) : SG c (eAttr cn f (eVar i)) (rL en) (pureT xs) := fun env st hc Q X ht => by
  obtain ⟨q1, q2⟩ := hc.cell h1 h2
  simp only [eAttr, eVar, hc.cov i _ h, bind_ok, fldW, q2, if_true, hf]
  exact ⟨.refl hc.pool, xs, hc.cell h3 h4, ht⟩
/-- what the fields are, once their lists stop changing -/
inductive FzR (ns : List Nat) (cs : List Cell) : List Nat → List (String × W) → List W → Prop
  | nil : FzR ns cs [] [] []
  | v {js : List Nat} {f : String} {w : W} {r : List (String × W)} {ws : List W} (h : w.noLoc = true) (k : FzR ns cs js r ws) : FzR ns cs js ((f, w) :: r) (w :: ws)
  | l {js : List Nat} {f : String} {m : Nat} {xs : List W} {r : List (String × W)} {ws : List W} (j : Nat) (h1 : ns[j]? = some m) (h2 : cs[j]? = some (.lst xs)) (h3 : j ∉ js) (k : FzR ns cs js r ws) : FzR ns cs (j :: js) ((f, .loc m) :: r) (.lst xs :: ws)
theorem FzR.run {ns : List Nat} {cs : List Cell} (hnd : ns.Nodup) {js : List Nat} {fs : List (String × W)} {ws : List W} (r : FzR ns cs js fs ws) : ∀ st : Store, (∀ j ∈ js, ∀ m x, ns[j]? = some m → cs[j]? = some x → st[m]? = some x) →
    ∃ fs' st', frzFs fs st = some (fs', st') ∧ fs'.map (·.1) = fs.map (·.1) ∧ fs'.map (·.2) = ws ∧ st'.length = st.length ∧ ∀ i, (∀ j ∈ js, ns[j]? ≠ some i) → st'[i]? = st[i]? := by
  induction r with
  | nil => exact fun st _ => ⟨[], st, rfl, rfl, rfl, rfl, fun _ _ => rfl⟩
  | @v js f w r ws h k ih =>
    intro st hs
    obtain ⟨fs', st', e1, e2, e3, e4, e5⟩ := ih st hs
    refine ⟨(f, w) :: fs', st', ?_, by simp [e2], by simp [e3], e4, e5⟩
    unfold frzFs
    cases w <;> first | exact Bool.noConfusion h | (simp only [e1, Option.map_some])
  | @l js f m xs r ws j h1 h2 h3 k ih =>
    intro st hs
    have at_ := hs j (by simp) m _ h1 h2
    have ne : ∀ j' ∈ js, ns[j']? ≠ some m := fun j' hj' e => by
      have l1 := (List.getElem?_eq_some_iff.mp h1)
      have l2 := (List.getElem?_eq_some_iff.mp e)
      obtain ⟨a1, b1⟩ := l1
      obtain ⟨a2, b2⟩ := l2
      have : j = j' := (List.getElem_inj hnd).1 (b1.trans b2.symm)
      exact h3 (by rw [this]; exact hj')
    obtain ⟨fs', st', e1, e2, e3, e4, e5⟩ := ih (st.set m .gone) fun j' hj' m' x q1 q2 => by
      have : m ≠ m' := fun e => ne j' hj' (by rw [e]; exact q1)
      rw [List.getElem?_set_ne this]
      exact hs j' (List.mem_cons_of_mem _ hj') m' x q1 q2
    refine ⟨(f, .lst xs) :: fs', st', ?_, by simp [e2], by simp [e3], by simpa using e4, fun i hi => ?_⟩
    · unfold frzFs
      simp only [at_, e1, Option.map_some]
    · have : m ≠ i := fun e => hi j (by simp) (by rw [e] at h1; exact h1)
      rw [e5 i fun j' hj' => hi j' (List.mem_cons_of_mem _ hj'), List.getElem?_set_ne this]
/-- at the end: the object, its lists with it, as a thing -/
theorem y_iniL {st0 : Store} {pat : Env} {nms : List Nat} {cs : List Cell} {cn : String} {ns : List String} {l : α → List W} {Q : α → Prop} {x : α} {fs : List (String × W)} {js : List Nat} (k : Nat) (hz : FzR nms cs js fs (l x)) (hkj : k ∉ js := by decide) (h1 : nms[k]? = some st0.length := by rfl) (h2 : cs[k]? = some (.obj cn fs) := by rfl) (hn : fs.map (·.1) = ns := by rfl) : SS ⟨st0, pat, nms, cs⟩ (GI st0 cn ns l Q X) sSkip (Q x) := fun hp env st hc => by
  obtain ⟨q1, q2⟩ := hc.cell h1 h2
  have kp := hc.keep
  obtain ⟨fs', st', e1, e2, e3, e4, e5⟩ := hz.run hc.nd st fun j _ m x a b => hc.at_ j m x a b
  have e6 : st'[st0.length]? = st[st0.length]? := e5 _ fun j hj e => by
    obtain ⟨a1, b1⟩ := List.getElem?_eq_some_iff.mp h1
    obtain ⟨a2, b2⟩ := List.getElem?_eq_some_iff.mp e
    have : k = j := (List.getElem_inj hc.nd).1 (b1.trans b2.symm)
    exact hkj (by rw [this]; exact hj)
  have p0 : 0 < st0.length := hc.p0.pos
  have old : ∀ i, i < st0.length → st'[i]? = st[i]? := fun i hi => e5 i fun j hj e => by
    have := hc.nge i (List.mem_of_getElem? e)
    have this : st0.length ≤ i := this
    omega
  refine ⟨x, st'.set st0.length .gone, ?_, ⟨?_, by have := kp.ge; simpa [e4] using this, fun i h0 hi => ?_⟩, hp⟩
  · show frzOb (.loc st0.length) st = _
    unfold frzOb
    simp only [q2, e1, e2, e3, hn]
  · obtain ⟨c0, t, e, hpl⟩ := kp.pool
    have h0 := old 0 p0
    rw [e] at h0
    cases st' with
    | nil => simp at h0
    | cons c1 t1 =>
      simp at h0
      subst h0
      obtain ⟨m, hm⟩ : ∃ m, st0.length = m + 1 := ⟨st0.length - 1, by omega⟩
      rw [hm]
      exact ⟨c1, t1.set m .gone, rfl, hpl⟩
  · have hi : i < st0.length := hi
    rw [List.getElem?_set_ne (by omega), old i hi]
    exact kp.old i h0 hi
/-! ### properties -/
theorem x_prop {cn : String} {ns : List String} {l : α → List W} {f : Fn} {r2 : RR W γ} {pf : α × Unit → PT γ} {t : PT α} (hf : FT f (rCons (rV (nOb cn ns l)) rNil) r2 pf) (ho : SG c o (rV (nOb cn ns l)) t) : SG c (eProp cn f o) r2 (bindT t fun x => fun Q _ => pf (x, ()) Q (fun _ => False)) := fun env st hc Q X ht => by
  unfold eProp
  refine OkG.bind (ho env st hc _ X ht) fun w s x k1 h1 hx => ?_
  have h1 : w = .ob cn ns (l x) := h1
  subst h1
  have q := hf s [.ob cn ns (l x)] (x, ()) k1.pool ⟨_, _, rfl, rfl, rfl⟩ Q (fun _ => False) hx
  revert q
  cases e : f [.ob cn ns (l x)] s with
  | ok w s2 =>
    intro q
    simp only [e, R.okOnly, and_self, if_true]
    exact q
  | exc z s2 => exact fun q => q.2.1.elim
  | stuck => exact fun q => q.elim
end M

-- T9
set_option autoImplicit false
set_option linter.all false
set_option maxRecDepth 100000
namespace M
variable {ω υ α β γ δ σ ν κ : Type} {c d : Ctx} {e a b o : IE} {es : List IE} {en : α → W} {G : GG} {X : Ex → Prop} {rest body : IS} {P : Prop}
/-! ### len of an object -/
def lenT (p : PT Int) : PT Int := fun Q _ => p (fun i => 0 ≤ i ∧ i < 2 ^ 63 ∧ Q i) (fun _ => False)
theorem x_lenO {cn : String} {ns : List String} {l : α → List W} {f : Fn} {pf : α × Unit → PT Int} {t : PT α} (hf : FT f (rCons (rV (nOb cn ns l)) rNil) (rV nI) pf) (ho : SG c o (rV (nOb cn ns l)) t) (hm : "__len__" ∉ ns := by decide) : SG c (eLenO cn f o) (rV nI) (bindT t fun x => lenT (pf (x, ()))) := fun env st hc Q X ht => by
  unfold eLenO
  refine OkG.bind (ho env st hc _ X ht) fun w s x k1 h1 hx => ?_
  have h1 : w = .ob cn ns (l x) := h1
  subst h1
  have q := hf s [.ob cn ns (l x)] (x, ()) k1.pool ⟨_, _, rfl, rfl, rfl⟩ _ (fun _ => False) hx
  revert q
  cases e : f [.ob cn ns (l x)] s with
  | ok w s2 =>
    intro q
    obtain ⟨k2, i, hi, h0, hb, hQ⟩ := q
    have hi : w = .int i := hi
    subst hi
    have io : isObj s cn "__len__" (.ob cn ns (l x)) ∧ ((.ok (.int i) s2 : R W)).isLen := ⟨⟨rfl, hm⟩, h0, hb⟩
    rw [if_pos io]
    exact ⟨k2, i, rfl, hQ⟩
  | exc z s2 => exact fun q => q.2.1.elim
  | stuck => exact fun q => q.elim
end M

-- T10
set_option autoImplicit false
set_option linter.all false
set_option maxRecDepth 100000
namespace M
variable {ω υ α β γ δ σ ν κ : Type} {c d : Ctx} {e a b o : IE} {es : List IE} {en : α → W} {G : GG} {X : Ex → Prop} {rest body : IS} {P : Prop}
theorem y_nvr : SS c G body False := fun h => h.elim
/-! ### several except clauses -/
theorem y_tryM2 {β h1 h2 : IS} {s1 s2 : List String} (h : SS c G (sSeq (sTry s2 (sTry s1 β h1) h2) rest) P) : SS c G (sSeq (sTryM β [(s1, h1), (s2, h2)]) rest) P := by simp only [sTryM_cons, sTryM_nil]; exact h
theorem y_tryM3 {β h1 h2 h3 : IS} {s1 s2 s3 : List String} (h : SS c G (sSeq (sTry s3 (sTry s2 (sTry s1 β h1) h2) h3) rest) P) : SS c G (sSeq (sTryM β [(s1, h1), (s2, h2), (s3, h3)]) rest) P := by simp only [sTryM_cons, sTryM_nil]; exact h
theorem y_tryM4 {β h1 h2 h3 h4 : IS} {s1 s2 s3 s4 : List String} (h : SS c G (sSeq (sTry s4 (sTry s3 (sTry s2 (sTry s1 β h1) h2) h3) h4) rest) P) : SS c G (sSeq (sTryM β [(s1, h1), (s2, h2), (s3, h3), (s4, h4)]) rest) P := by simp only [sTryM_cons, sTryM_nil]; exact h
/-! ### defs that hand back a new list, which may be changed -/
def OkN (st : Store) (en : β → W) (Q : List β → Prop) (X : Ex → Prop) : R W → Prop
  | .ok w s => ∃ s0 b, Keep st s0 ∧ s0.length = st.length ∧ w = .loc st.length ∧ s = s0 ++ [.lst (List.map en b)] ∧ Q b
  | .exc x s => Keep st s ∧ X x ∧ ∀ n, x.bd n = true
  | .stuck => False
def FN (f : Fn) (r : RR (List W) α) (en : β → W) (p : α → PT (List β)) : Prop := ∀ st ws a, PoolSt st → r.rel st ws a → ∀ Q X, p a Q X → OkN st en Q X (f ws st)
theorem FN.ft {f : Fn} {r : RR (List W) α} {en : β → W} {p : α → PT (List β)} (h : FN f r en p) : FT f r (rL en) p := fun st ws a h0 hr Q X hp => by
  have := h st ws a h0 hr Q X hp
  revert this
  cases f ws st with
  | ok w s =>
    rintro ⟨s0, b, k, hl, rfl, rfl, q⟩
    refine ⟨k.trans (Keep.push k.pool _), b, ⟨h0.pos, ?_⟩, q⟩
    rw [← hl]; simp
  | exc x s => exact fun h => h
  | stuck => exact fun h => h
theorem y_setCN {st0 : Store} {pat : Env} {ns : List Nat} {cs : List Cell} {i : Nat} {f : Fn} {r : RR (List W) β} {pf : β → PT (List α)} {ta : PT β} {K : List α → Prop} (gx : GX ⟨st0, pat, ns, cs⟩ G X) (hf : FN f r en pf) (ha : SG ⟨st0, pat, ns, cs⟩ (eArgs es) r ta) (k : ∀ x n, SS ⟨st0, pat.set i (some (.loc n)), n :: ns, .lst (x.map en) :: cs⟩ G rest (K x)) : SS ⟨st0, pat, ns, cs⟩ G (sSeq (sSet i (eCall f es)) rest) ((bindT ta fun a => pf a) K X) := fun hp env st hc => by
  rcases ha.run gx hc hp with ⟨ws, s, a, e1, k1, hc1, r1, hk⟩ | ⟨z, s, e1, g⟩
  · have := hf s ws a hc1.pool r1 K X hk
    simp only [sSeq, sSet, eCall, e1, bind_ok]
    revert this
    cases f ws s with
    | ok w s' =>
      rintro ⟨s0, b, kk, hl, rfl, rfl, q⟩
      have hc2 := (hc1.keeps kk).new (.lst (b.map en))
      rw [hl] at hc2
      exact k b s.length q _ _ (hc2.pat (hc2.covv.set i (some (.loc s.length))))
    | exc x s' =>
      rintro ⟨kk, hx, hb⟩
      exact gx x env s' (hc1.keeps kk) hx hb
    | stuck => exact fun h => h.elim
  · simp only [sSeq, sSet, eCall, e1, bind_exc]; exact g
theorem Keep.setNew {st s : Store} (h0 : PoolSt st) (k : Keep st s) {n : Nat} (hn : st.length ≤ n) (x : Cell) : Keep st (s.set n x) := ⟨by
    obtain ⟨c0, t, rfl, hp⟩ := k.pool
    have := h0.pos
    obtain ⟨m, rfl⟩ : ∃ m, n = m + 1 := ⟨n - 1, by omega⟩
    exact ⟨c0, t.set m x, rfl, hp⟩, by simpa using k.ge, fun i h hi => by
    rw [List.getElem?_set_ne (by omega)]; exact k.old i h hi⟩
theorem x_frzC {f : Fn} {r : RR (List W) β} {pf : β → PT (List α)} {ta : PT β} (hf : FN f r en pf) (ha : SG c (eArgs es) r ta) : SG c (eFrz (eCall f es)) (rV (nL en)) (bindT ta fun a => pf a) := fun env st hc Q X ht => by
  have := OkG.bind (r2 := rV (nL en)) (Q := Q) (f := fun ws s => (f ws s).bind frzOp) (ha env st hc _ X ht) fun ws s a k1 h1 hx => by
    have := hf s ws a k1.pool h1 Q X hx
    revert this
    cases f ws s with
    | ok w s' =>
      rintro ⟨s0, b, kk, hl, rfl, rfl, q⟩
      have e : (s0 ++ [Cell.lst (b.map en)])[s.length]? = some (.lst (b.map en)) := by rw [← hl]; simp
      simp only [bind_ok, frzOp, e]
      exact ⟨(kk.trans (Keep.push kk.pool _)).setNew k1.pool (Nat.le_refl _) _, b, rfl, q⟩
    | exc x s' => exact fun h => h
    | stuck => exact fun h => h
  simp only [eFrz, eCall]
  revert this
  cases eArgs es env st <;> exact fun h => h
/-- a character of a text -/
def ixST (s : Cs) (i : Int) : PT Cs := fun Q _ => 0 ≤ i ∧ i < 2 ^ 63 ∧ ∃ c, s[i.toNat]? = some c ∧ Q [c]
theorem o_ixS : Op2 (rV nC) (rV nI) opIxS (rV nC) fun s i => ixST s i := by
  rintro s _ _ x i hp rfl rfl Q X ⟨h0, h1, c, h2, q⟩
  have e : (x.map Char.toNat)[i.toNat]? = some c.toNat := by rw [List.getElem?_map, h2]; rfl
  simp only [opIxS, nC, nI, if_pos (And.intro h0 h1), e]
  exact okV (en := nC) hp [c] q
def GRN (st0 : Store) (G : GG) (en : β → W) (Q : List β → Prop) : Prop := ∀ k s b, Keep st0 s → st0.length ≤ k → s[k]? = some (.lst (List.map en b)) → Q b → G.ret (.loc k) s
theorem GRN.j {st0 : Store} {Q : List α → Prop} {D : ν → σ → Ctx} {k : σ → Prop} (h : GRN st0 G en Q) : GRN st0 (GJ G D k) en Q := h
theorem GRN.l {st0 : Store} {Q : List α → Prop} {D : ν → σ → Ctx} {k m : σ → Prop} (h : GRN st0 G en Q) : GRN st0 (GL G D k m) en Q := h
theorem GRN.z {st0 : Store} {Q : List α → Prop} (h : GRN st0 G en Q) : GRN st0 (GZ G) en Q := h
theorem GRN.t {st0 : Store} {Q : List α → Prop} {subs : List String} {Dh : Ctx} {PH : Prop} (h : GRN st0 G en Q) : GRN st0 (GT G subs Dh PH) en Q := h
theorem GRN.h {st0 : Store} {Q : List α → Prop} (h : GRN st0 G en Q) : GRN st0 (GH G) en Q := h
theorem GRN.ta {st0 : Store} {Q : List α → Prop} {subs : List String} {Dh : Ctx} {PH : Ex → Prop} (h : GRN st0 G en Q) : GRN st0 (GTA G subs Dh PH) en Q := h
theorem GRN.ha {st0 : Store} {Q : List α → Prop} (h : GRN st0 G en Q) : GRN st0 (GHA G) en Q := h
theorem yn_retM {i : Nat} (k : Nat) {n : Nat} {xs : List α} {Q : List α → Prop} (gr : GRN c.st0 G en Q) (h : c.pat[i]? = some (some (.loc n)) := by rfl) (h1 : c.ns[k]? = some n := by rfl) (h2 : c.cs[k]? = some (.lst (xs.map en)) := by rfl) : SS c G (sRet (eVar i)) (Q xs) := fun hp env st hc => by
  obtain ⟨q1, q2⟩ := hc.cell h1 h2
  simp only [sRet, eVar, hc.cov i _ h]
  exact gr n st xs hc.keep (hc.nge n (List.mem_of_getElem? h1)) q2 hp
theorem yn_retL {l : IL} {t : PT (List α)} {Q : List α → Prop} (gx : GX c G X) (gr : GRN c.st0 G en Q) (h : SG c l (rLs en) t) : SS c G (sRet (eNew l)) (t Q X) := fun hp env st hc => by
  rcases h.run gx hc hp with ⟨w, s, x, e1, k1, hc1, r1, hk⟩ | ⟨z, s, e1, g⟩
  · have r1 : w = x.map en := r1
    subst r1
    simp only [sRet, eNew, e1, bind_ok]
    exact gr s.length _ x (hc1.keep.trans (Keep.push hc1.pool _)) hc1.ge (by simp) hk
  · simp only [sRet, eNew, e1, bind_exc]; exact g
theorem yn_retC {f : Fn} {r : RR (List W) β} {pf : β → PT (List α)} {ta : PT β} {Q : List α → Prop} (gx : GX c G X) (gr : GRN c.st0 G en Q) (hf : FN f r en pf) (ha : SG c (eArgs es) r ta) : SS c G (sRet (eCall f es)) ((bindT ta fun a => pf a) Q X) := fun hp env st hc => by
  rcases ha.run gx hc hp with ⟨ws, s, a, e1, k1, hc1, r1, hk⟩ | ⟨z, s, e1, g⟩
  · have := hf s ws a hc1.pool r1 Q X hk
    simp only [sRet, eCall, e1, bind_ok]
    revert this
    cases f ws s with
    | ok w s' =>
      rintro ⟨s0, b, kk, hl, rfl, rfl, q⟩
      exact gr s.length _ b ((hc1.keep.trans kk).trans (Keep.push kk.pool _)) hc1.ge (by rw [← hl]; simp) q
    | exc x s' =>
      rintro ⟨kk, hx, hb⟩
      exact gx x env s' (hc1.keeps kk) hx hb
    | stuck => exact fun h => h.elim
  · simp only [sRet, eCall, e1, bind_exc]; exact g
def GN (st0 : Store) (en : β → W) (Q : List β → Prop) (X : Ex → Prop) : GG := ⟨fun _ _ => False, fun _ _ => False, fun _ _ => False, fun w s => Keep st0 s ∧ ∃ k b, w = .loc k ∧ st0.length ≤ k ∧ s[k]? = some (.lst (List.map en b)) ∧ Q b, fun x _ s => Keep st0 s ∧ X x ∧ ∀ n, x.bd n = true⟩
theorem GN.x {en : β → W} {Q : List β → Prop} : GX c (GN c.st0 en Q X) X := fun x _ s k h1 h2 => ⟨k.keep, h1, h2⟩
theorem GN.r {st0 : Store} {en : β → W} {Q : List β → Prop} : GRN st0 (GN st0 en Q X) en Q := fun k s b h0 h1 h2 h3 => ⟨h0, k, b, rfl, h1, h2, h3⟩
theorem fn_lst {n : Nat} {r : RR (List W) α} {en : β → W} [he : Enc en] {pf : α → PT (List β)} (h : ∀ st0 ws a, PoolSt st0 → r.rel st0 ws a → ∀ Q X, SS ⟨st0, ws.map some ++ List.replicate (n - ws.length) none, [], []⟩ (GN st0 en Q X) body (pf a Q X)) : FN (runDef n .lst body) r en pf := fun st ws a h0 hr Q X hp => by
  have := h st ws a h0 hr Q X hp _ st ⟨fun i w q => q, rfl, .refl h0, h0, by simp, fun n hn => absurd hn (by simp), rfl, fun k n x q => by simp at q⟩
  simp only [runDef]
  revert this
  cases body (ws.map some ++ List.replicate (n - ws.length) none) st with
  | nx e s => exact fun h => h.elim
  | ret w s =>
    rintro ⟨k, j, b, rfl, hj, hb, q⟩
    simp only [fin, hb]
    have : bdL st.length (b.map en) = true := by simp [he.bd]
    rw [if_pos ⟨hj, this, k.old_ h0⟩]
    exact ⟨s.take st.length, b, k.take h0, by rw [List.length_take]; have := k.ge; omega, rfl, rfl, q⟩
  | brk e s => exact fun h => h
  | cnt e s => exact fun h => h
  | exc x e s =>
    rintro ⟨k, q1, q2⟩
    simp only [finX]
    rw [if_pos ⟨q2 _, k.old_ h0⟩]
    exact ⟨k.take h0, q1, q2⟩
  | stuck => exact fun h => h
end M

-- T11
set_option autoImplicit false
set_option linter.all false
set_option maxRecDepth 100000
namespace M
variable {ω υ α β γ δ σ ν κ : Type} {c d : Ctx} {e a b o : IE} {es : List IE} {en : α → W} {G : GG} {X : Ex → Prop} {rest body : IS} {P : Prop}
/-! ### things of many kinds -/
/-- data, of whatever kind -/
def Dt : Type := { w : W // ∀ n, w.bd n = true }
def nZ (x : Dt) : W := x.1
theorem Dt.nl (x : Dt) : x.1.noLoc = true := by
  obtain ⟨w, h⟩ := x
  cases w <;> first | rfl | (have := h 0; simp [W.bd] at this; done)
instance : Enc nZ := ⟨fun x n => x.2 n, fun x => x.nl⟩
noncomputable instance : DecidableEq Dt := fun a b => Classical.propDecidable _
def toZ (en : α → W) [h : Enc en] (a : α) : Dt := ⟨en a, h.bd a⟩
theorem c_Z [he : Enc en] {t : PT α} (h : SG c e (rV en) t) : SG c e (rV nZ) (bindT t fun a => pureT (toZ en a)) := fun env st hc Q X ht => by
  have := h env st hc _ X ht
  revert this
  cases e env st with
  | ok w s => rintro ⟨k, a, rfl, q⟩; exact ⟨k, toZ en a, rfl, q⟩
  | exc x s => exact fun h => h
  | stuck => exact fun h => h
/-- a thing as one of a kind -/
def unZ (en : α → W) (w : Dt) : PT α := fun Q _ => ∃ a, w.1 = en a ∧ Q a
theorem c_unZ {t : PT Dt} (h : SG c e (rV nZ) t) : SG c e (rV en) (bindT t fun w => unZ en w) := fun env st hc Q X ht => by
  have := h env st hc _ X ht
  revert this
  cases e env st with
  | ok w s => rintro ⟨k, w', rfl, a, e1, q⟩; exact ⟨k, a, e1, q⟩
  | exc x s => exact fun h => h
  | stuck => exact fun h => h
/-- an item of a tuple of many kinds -/
def ixZT (w : Dt) (k : Nat) : PT Dt := fun Q _ => ∃ (ws : List W) (v : Dt), w.1 = .tup ws ∧ ws[k]? = some v.1 ∧ Q v
theorem x_ixZ {k : Nat} {t : PT Dt} (h : SG c a (rV nZ) t) : SG c (eOp opIx a (eC (.int (k : Int)))) (rV nZ) (bindT t fun w => ixZT w k) := fun env st hc Q X ht =>
  OkG.bind (h env st hc _ X ht) fun w s x k1 h1 hx => by
    have h1 : w = x.1 := h1
    obtain ⟨ws, v, e0, e1, q⟩ := hx
    rw [h1, e0]
    have hk : k < ws.length := (List.getElem?_eq_some_iff.mp e1).1
    have e2 : atW ws (k : Int) = some v.1 := by rw [atW_nat _ _ hk, ← e1, List.getElem?_eq_getElem hk]
    have : opIx (.tup ws) (.int (k : Int)) s = .ok v.1 s := by simp only [opIx, seqOf, e2]
    simp only [eC, bind_ok, this]
    exact okV (en := nZ) k1.pool v q
/-- the items of a tuple of many kinds -/
def tupZT (w : Dt) : PT (List Dt) := fun Q _ => ∃ ws : List Dt, w.1 = .tup (ws.map nZ) ∧ Q ws
theorem p_Z {t : PT Dt} (h : SG c e (rV nZ) t) : SG c e (rP c.st0.length [] nZ) (bindT t fun w => tupZT w) := fun env st hc Q X ht => by
  have := h env st hc _ X ht
  revert this
  cases e env st with
  | ok w s =>
    rintro ⟨k, w', e0, ws, e1, q⟩
    have e0 : w = w'.1 := e0
    exact ⟨k, ws, ⟨(hc.keeps k).ge, .inl (by rw [e0, e1]), fun n h => absurd h (by simp)⟩, q⟩
  | exc x s => exact fun h => h
  | stuck => exact fun h => h
theorem x_slZ {lo hi : Option IE} {t : PT Dt} {tl th : PT (Option Int)} (h : SG c e (rV nZ) t) (hl : SG c (part lo) rX tl) (hh : SG c (part hi) rX th) : SG c (eSlT e lo hi) (rV (nV nZ)) (bindT t fun w => bindT (tupZT w) fun x => bindT tl fun l => bindT th fun h => pureT (cutT x l h)) := fun env st hc Q X ht =>
  OkG.bind (h env st hc _ X ht) fun w s x k1 h1 hx => by
    have h1 : w = x.1 := h1
    obtain ⟨ws, e0, hx⟩ := hx
    rw [h1, e0]
    refine OkG.bind (hl env s (hc.keeps k1) _ X hx) fun l s2 l' k2 h2 hx2 => OkG.bind (hh env s2 ((hc.keeps k1).keeps k2) _ X hx2) fun u s3 u' k3 h3 hx3 => ?_
    have h2 : l = l' := h2
    have h3 : u = u' := h3
    subst h2; subst h3
    refine ⟨.refl k3.pool, cutT ws l u, ?_, hx3⟩
    show W.tup (cutW (ws.map nZ) l u) = .tup ((cutT ws l u).map nZ)
    rw [cutW_map]
/-! ### join -/
def joinT (a : Cs) : List Cs → Cs
  | [] => []
  | [p] => p
  | p :: q :: r => p ++ (a ++ joinT a (q :: r))
theorem joinT_map (a : Cs) : ∀ ps : List Cs, joinN (a.map Char.toNat) (ps.map fun s => s.map Char.toNat) = (joinT a ps).map Char.toNat
  | [] => rfl
  | [_] => rfl
  | p :: q :: r => by
    have := joinT_map a (q :: r)
    simp only [List.map_cons] at this
    simp [joinN, joinT, this]
theorem x_join {ta : PT Cs} {tb : PT (List Cs)} (ha : SG c a (rV nC) ta) (hb : SG c b (rS nC) tb) : SG c (eBm "str" mJoin a [b]) (rV nC) (bindT ta fun s => bindT tb fun ps => grdT ((ps.map List.length).sum + ps.length * s.length ≤ lim) (joinT s ps)) := fun env st hc Q X ht =>
  OkG.bind (ha env st hc _ X ht) fun w s x k1 h1 hx => by
    have h1 : w = nC x := h1
    subst h1
    have ty : tyM s "str" (nC x) = true := rfl
    simp only [ty, if_true, eArgs]
    have := OkG.bind (r2 := rV nC) (Q := Q) (f := fun w s2 => mJoin (nC x) [w] s2) (hb env s (hc.keeps k1) _ X hx) fun w s2 ps k2 h2 ⟨hl, q⟩ => by
      have e1 : (seqOf s2 w).bind strsOf = some (ps.map fun s => s.map Char.toNat) := by
        rw [seqOf_rS h2, Option.bind_some, strsOf_map]
      have e2 : ((ps.map fun s : Cs => s.map Char.toNat).map List.length).sum + (ps.map fun s : Cs => s.map Char.toNat).length * (x.map Char.toNat).length ≤ lim := by
        have : (ps.map fun s : Cs => s.map Char.toNat).map List.length = ps.map List.length := by simp [Function.comp_def]
        rw [this]; simpa using hl
      show OkG s2 _ _ _ (mJoin (nC x) [w] s2)
      simp only [mJoin, nC, e1, if_pos e2, joinT_map]
      exact okV (en := nC) k2.pool _ q
    revert this
    cases b env s <;> exact fun h => h
/-! ### dicts of one entry -/
theorem x_dsp1 {ek : κ → W} {ev : β → W} [DecidableEq κ] [hk : KeyE ek] {ta : PT κ} {tb : PT β} (ha : SG c a (rV ek) ta) (hb : SG c b (rV ev) tb) : SG c (dDsp1 a b) (rDs ek ev) (fun Q X => ta (fun k => tb (fun v => Q [(k, v)]) (fun _ => False)) (fun _ => False)) := fun env st hc Q X ht => by
  have h1 := ha env st hc _ (fun _ => False) ht
  unfold dDsp1
  revert h1
  cases a env st with
  | stuck => exact fun h => h
  | exc z s => exact fun h => h.2.1.elim
  | ok kw s =>
    rintro ⟨k1, k, rfl, h2⟩
    have h3 := hb env s (hc.keeps k1) _ (fun _ => False) h2
    revert h3
    simp only
    cases b env s with
    | stuck => exact fun h => h
    | exc z s => exact fun h => h.2.1.elim
    | ok w s2 =>
      rintro ⟨k2, v, rfl, q⟩
      simp only [if_pos (hk.ok k)]
      exact ⟨k1.trans k2, [(k, v)], by
        show putD [] (ek k) (ev v) = [(ek k, ev v)]
        simp [putD], q⟩
/-! ### methods that hand back a new list -/
open Classical in
theorem x_methN {cn m : String} {ns : List String} {l : α → List W} {f : Fn} {r : RR (List W) β} {e2 : γ → W} {pf : α × β → PT (List γ)} {t : PT α} {ta : PT β} (hf : FN f (rCons (rV (nOb cn ns l)) r) e2 pf) (ho : SG c o (rV (nOb cn ns l)) t) (ha : SG c (eArgs es) r ta) (hm : m ∉ ns := by decide) : SG c (eFrz (eMeth cn m f o es)) (rV (nL e2)) (bindT t fun x => bindT ta fun y => pf (x, y)) := fun env st hc Q X ht => by
  have := OkG.bind (r2 := rV (nL e2)) (Q := Q) (f := fun w s => ((if isObj s cn m w then (eArgs es env s).bind fun ws s2 => f (w :: ws) s2 else .stuck : R W)).bind frzOp) (ho env st hc _ X ht) fun w s x k1 h1 hx => by
    have h1 : w = .ob cn ns (l x) := h1
    subst h1
    have io : isObj s cn m (.ob cn ns (l x)) := ⟨rfl, hm⟩
    simp only [if_pos io]
    have := OkG.bind (r2 := rV (nL e2)) (Q := Q) (f := fun ws s2 => (f (.ob cn ns (l x) :: ws) s2).bind frzOp) (ha env s (hc.keeps k1) _ X hx) fun ws s2 y k2 h2 hy => by
      have := hf s2 (.ob cn ns (l x) :: ws) (x, y) k2.pool ⟨_, _, rfl, rfl, h2⟩ Q X hy
      revert this
      cases f (.ob cn ns (l x) :: ws) s2 with
      | ok w s' =>
        rintro ⟨s0, b, kk, hl, rfl, rfl, q⟩
        have e : (s0 ++ [Cell.lst (b.map e2)])[s2.length]? = some (.lst (b.map e2)) := by rw [← hl]; simp
        simp only [bind_ok, frzOp, e]
        exact ⟨(kk.trans (Keep.push kk.pool _)).setNew k2.pool (Nat.le_refl _) _, b, rfl, q⟩
      | exc x s' => exact fun h => h
      | stuck => exact fun h => h
    revert this
    cases eArgs es env s <;> exact fun h => h
  simp only [eFrz, eMeth]
  revert this
  cases o env st <;> exact fun h => h
open Classical in
/-- o.m().append(e): nobody sees it -/
theorem x_tmpApp {cn m : String} {ns : List String} {l : α → List W} {f : Fn} {e2 : γ → W} {pf : α × Unit → PT (List γ)} {t : PT α} {ta : PT γ} (hf : FN f (rCons (rV (nOb cn ns l)) rNil) e2 pf) (ho : SG c o (rV (nOb cn ns l)) t) (ha : SG c e (rV e2) ta) (hm : m ∉ ns := by decide) : SG c (eBm "list" mApp (eMeth cn m f o []) [e]) (rV nU) (bindT t fun x => bindT (pf (x, ())) fun l => bindT ta fun _ => grdT (l.length < lim) ()) := fun env st hc Q X ht => by
  have := OkG.bind (r2 := rV nU) (Q := Q) (f := fun w s => ((if isObj s cn m w then f [w] s else .stuck : R W)).bind fun x s1 => if tyM s1 "list" x = true then (eArgs [e] env s1).bind fun xs s2 => mApp x xs s2 else .stuck) (ho env st hc _ X ht) fun w s x k1 h1 hx => by
    have h1 : w = .ob cn ns (l x) := h1
    subst h1
    have io : isObj s cn m (.ob cn ns (l x)) := ⟨rfl, hm⟩
    simp only [if_pos io]
    have := hf s [.ob cn ns (l x)] (x, ()) k1.pool ⟨_, _, rfl, rfl, rfl⟩ _ X hx
    revert this
    cases f [.ob cn ns (l x)] s with
    | ok w s' =>
      rintro ⟨s0, b, kk, hl, rfl, rfl, q⟩
      have e1 : (s0 ++ [Cell.lst (b.map e2)])[s.length]? = some (.lst (b.map e2)) := by rw [← hl]; simp
      have ty : tyM (s0 ++ [Cell.lst (b.map e2)]) "list" (.loc s.length) = true := by simp [tyM, e1]
      have k0 : Keep s (s0 ++ [Cell.lst (b.map e2)]) := kk.trans (Keep.push kk.pool _)
      simp only [bind_ok, ty, if_true, eArgs]
      have h3 := ha env _ ((hc.keeps k1).keeps k0) _ X q
      revert h3
      cases e env (s0 ++ [Cell.lst (b.map e2)]) with
      | ok v s3 =>
        rintro ⟨k3, a, rfl, h4, h5⟩
        have e4 : s3[s.length]? = some (.lst (b.map e2)) := by
          rw [k3.old _ k1.pool.pos (by simp; omega)]; exact e1
        have h4' : (b.map e2).length < lim := by simpa using h4
        simp only [bind_ok, mApp, e4, if_pos h4']
        exact ⟨(k0.trans k3).setNew k1.pool (Nat.le_refl _) _, (), rfl, h5⟩
      | exc z s3 =>
        rintro ⟨k3, h4, h5⟩
        exact ⟨k0.trans k3, h4, h5⟩
      | stuck => exact fun h => h.elim
    | exc x s' => exact fun h => h
    | stuck => exact fun h => h
  simp only [eBm, eMeth, eArgs]
  revert this
  cases o env st with
  | ok w s =>
    simp only [bind_ok]
    by_cases c : isObj s cn m w
    · simp only [if_pos c, bind_ok]
      exact fun h => h
    · simp only [if_neg c]
      exact fun h => h
  | exc z s => exact fun h => h
  | stuck => exact fun h => h
theorem y_ifJ {p : IT} {A B : IS} {tp : PT Bool} {D : ν → σ → Ctx} {K : σ → Prop} {fA fB : (σ → Prop) → Prop} (gx : GX c G X) (h : SG c p rB tp) (ha : ∀ k, SS c (GJ G D k) A (fA k)) (hb : ∀ k, SS c (GJ G D k) B (fB k)) (k : ∀ v s, SS (D v s) G rest (K s)) :
    SS c G (sSeq (sIf p A B) rest) (jn K fun k => tp (fun x => if x = true then fA k else fB k) X) := y_if gx h ha hb k
/-- what stands behind a join is shown once -/
theorem jn_intro {κ : Type} {K : κ → Prop} {f : (κ → Prop) → Prop} (P : κ → Prop) (h1 : ∀ s, P s → K s) (h2 : ∀ k : κ → Prop, (∀ s, P s → k s) → f k) : jn K f := h2 K h1
end M

-- T12
set_option autoImplicit false
set_option linter.all false
set_option maxRecDepth 100000
namespace M
variable {ω υ α β γ δ σ ν κ : Type} {c d : Ctx} {e a b o : IE} {es : List IE} {en : α → W} {G : GG} {X : Ex → Prop} {rest body : IS} {P : Prop}
/-! ### texts -/
theorem i_txt {t : PT Cs} (h : SG c e (rV nC) t) : SG c (iTxt e) (rI c.st0.length [] nC) (bindT t fun s => pureT (s.map fun x => [x])) := fun env st hc Q X ht => by
  unfold iTxt
  refine OkG.bind (h env st hc _ X ht) fun w s x k1 h1 hx => ?_
  have h1 : w = nC x := h1
  subst h1
  exact ⟨.refl k1.pool, x.map fun y => [y], ⟨by simp [nC], fun n h => absurd h (by simp), (hc.keeps k1).ge, fun _ _ => trivial⟩, hx⟩
/-- one character in a text -/
def inG (neg : Bool) (a s : Cs) : PT Bool := fun Q _ => ∃ x, a = [x] ∧ Q (if neg = true then !decide (x ∈ s) else decide (x ∈ s))
theorem mem_toNat (x : Char) (s : Cs) : x.toNat ∈ s.map Char.toNat ↔ x ∈ s := by
  rw [List.mem_map]
  exact ⟨fun ⟨y, h, e⟩ => by rw [← Char.toNat_inj.1 e]; exact h, fun h => ⟨x, h, rfl⟩⟩
theorem o_inG (neg : Bool) : Op2 (rV nC) (rV nC) (opInG neg) (rV nB) fun x y => inG neg x y := by
  rintro s _ _ x y hp rfl rfl Q X ⟨z, rfl, q⟩
  have e : (∀ {i : Decidable (z.toNat ∈ y.map Char.toNat)}, @decide (z.toNat ∈ y.map Char.toNat) i = decide (z ∈ y)) := by
    intro i
    rw [Bool.eq_iff_iff]
    simp only [decide_eq_true_eq, mem_toNat]
  simp only [nC, List.map_cons, List.map_nil, opInG, e]
  have := okV (en := nB) (X := X) hp _ q
  cases neg <;> exact this
/-! split, partition, by one character -/
def splC (S : Char) : Cs → Cs → List Cs
  | acc, [] => [acc]
  | acc, x :: r => if x = S then acc :: splC S [] r else splC S (acc ++ [x]) r
def parC (S : Char) : Cs → Cs → Option (Cs × Cs)
  | _, [] => none
  | acc, x :: r => if x = S then some (acc, r) else parC S (acc ++ [x]) r
theorem pre_one (S x : Char) (r : Cs) : TL.pre [S.toNat] (x.toNat :: r.map Char.toNat) = decide (x = S) := by
  unfold TL.pre
  rw [Bool.eq_iff_iff]
  simp [Char.toNat_inj]
theorem splC_map (S : Char) : ∀ l acc : Cs, TL.spl [S.toNat] 0 (acc.map Char.toNat) (l.map Char.toNat) = (splC S acc l).map fun s => s.map Char.toNat
  | [], acc => by simp [TL.spl, splC]
  | x :: r, acc => by
    simp only [List.map_cons, TL.spl, pre_one, splC, decide_eq_true_eq]
    by_cases h : x = S
    · rw [if_pos h, if_pos h]
      have := splC_map S r []
      simpa using this
    · rw [if_neg h, if_neg h]
      have := splC_map S r (acc ++ [x])
      simpa using this
theorem parC_map (S : Char) : ∀ l acc : Cs, TL.par [S.toNat] (acc.map Char.toNat) (l.map Char.toNat) = (parC S acc l).map fun p => (p.1.map Char.toNat, p.2.map Char.toNat)
  | [], acc => by simp [TL.par, parC]
  | x :: r, acc => by
    simp only [List.map_cons, TL.par, pre_one, parC, decide_eq_true_eq]
    by_cases h : x = S
    · rw [if_pos h, if_pos h]; simp
    · rw [if_neg h, if_neg h]
      have := parC_map S r (acc ++ [x])
      simpa using this
def splT (s t : Cs) : PT (List Cs) := fun Q _ => ∃ S, t = [S] ∧ S.toNat < 256 ∧ s.length + 2 ≤ lim ∧ Q (splC S [] s)
theorem l_splitT {ta tb : PT Cs} (ha : SG c a (rV nC) ta) (hb : SG c b (rV nC) tb) : SG c (lSplit a b) (rLs nC) (bindT ta fun s => bindT tb fun t => splT s t) := fun env st hc Q X ht => by
  unfold lSplit
  refine OkG.bind (ha env st hc _ X ht) fun w s x k1 h1 hx => ?_
  have h1 : w = nC x := h1
  subst h1
  simp only [nC]
  refine OkG.bind (hb env s (hc.keeps k1) _ X hx) fun w s2 y k2 h2 ⟨S, e1, e2, e3, q⟩ => ?_
  have h2 : w = nC y := h2
  subst h2; subst e1
  have hc : ([S.toNat] : List Nat) ≠ [] ∧ ([S.toNat] : List Nat).all (· < 256) = true ∧ (x.map Char.toNat).length + 2 ≤ lim := ⟨by simp, by simpa using e2, by simpa using e3⟩
  have e4 : splN [S.toNat] (x.map Char.toNat) = (splC S [] x).map fun s => s.map Char.toNat := splC_map S x []
  simp only [nC, List.map_cons, List.map_nil]
  rw [if_pos hc, e4]
  refine ⟨.refl k2.pool, splC S [] x, ?_, q⟩
  show List.map W.str _ = List.map nC _
  rw [List.map_map]; rfl
theorem Fin3 (x y z : Cs) : nT (tC nC (tC nC (t1 nC))) (x, y, z) = .tup [nC x, nC y, nC z] := rfl
def parR (S : Char) (s : Cs) : Cs × Cs × Cs := match parC S [] s with
  | some (a, b) => (a, [S], b)
  | none => (s, [], [])
def partT (s t : Cs) : PT (Cs × Cs × Cs) := fun Q _ => ∃ S, t = [S] ∧ s.length ≤ lim ∧ Q (parR S s)
theorem x_bm1 {T : String} {f : W → List W → Store → R W} {ta : PT α} {tb : PT β} {ea : α → W} {eb : β → W} {ec : γ → W} {r : α → β → PT γ} (ha : SG c a (rV ea) ta) (hb : SG c b (rV eb) tb) (hty : ∀ s x, tyM s T (ea x) = true)
    (hf : ∀ s x y Q X, PoolSt s → r x y Q X → OkG s (rV ec) Q X (f (ea x) [eb y] s)) : SG c (eBm T f a [b]) (rV ec) (bindT ta fun s => bindT tb fun t => r s t) := fun env st hc Q X ht =>
  OkG.bind (ha env st hc _ X ht) fun w s x k1 h1 hx => by
    have h1 : w = ea x := h1
    subst h1
    simp only [hty, if_true, eArgs]
    have := OkG.bind (r2 := rV ec) (Q := Q) (f := fun w s2 => f (ea x) [w] s2) (hb env s (hc.keeps k1) _ X hx) fun w s2 y k2 h2 hy => by
      have h2 : w = eb y := h2
      subst h2
      exact hf s2 x y Q X k2.pool hy
    revert this
    cases b env s <;> exact fun h => h
theorem x_partn {ta tb : PT Cs} (ha : SG c a (rV nC) ta) (hb : SG c b (rV nC) tb) : SG c (eBm "str" mPartn a [b]) (rV (nT (tC nC (tC nC (t1 nC))))) (bindT ta fun s => bindT tb fun t => partT s t) :=
  x_bm1 ha hb (fun _ _ => rfl) fun s x y Q X hp ⟨S, e1, e2, q⟩ => by
    subst e1
    have hc : ([S.toNat] : List Nat) ≠ [] ∧ (x.map Char.toNat).length ≤ lim := ⟨by simp, by simpa using e2⟩
    have e3 := parC_map S x []
    simp only [nC, List.map_cons, List.map_nil, mPartn]
    rw [if_pos hc]
    refine ⟨.refl hp, _, ?_, q⟩
    show _ = nT (tC nC (tC nC (t1 nC))) (parR S x)
    unfold parN parR
    rw [show TL.par [S.toNat] [] (x.map Char.toNat) = _ from e3]
    cases parC S [] x with
    | none => rfl
    | some p => rfl
def remC (S : Char) : Cs → Cs
  | [] => []
  | x :: r => if x = S then r else x :: r
def remT (s t : Cs) : PT Cs := fun Q _ => ∃ S, t = [S] ∧ s.length ≤ lim ∧ Q (remC S s)
theorem x_remP {ta tb : PT Cs} (ha : SG c a (rV nC) ta) (hb : SG c b (rV nC) tb) : SG c (eBm "str" mRemP a [b]) (rV nC) (bindT ta fun s => bindT tb fun t => remT s t) :=
  x_bm1 ha hb (fun _ _ => rfl) fun s x y Q X hp ⟨S, e1, e2, q⟩ => by
    subst e1
    have hc : (x.map Char.toNat).length ≤ lim := by simpa using e2
    simp only [nC, List.map_cons, List.map_nil, mRemP]
    rw [if_pos hc]
    refine ⟨.refl hp, _, ?_, q⟩
    show W.str _ = nC _
    unfold remP
    cases x with
    | nil => simp [TL.pre, remC, nC]
    | cons z r =>
      rw [List.map_cons, pre_one]
      by_cases h : z = S <;> simp [h, remC, nC]
/-! slices, int, f-strings -/
theorem x_slS {lo hi : Option IE} {t : PT Cs} {tl th : PT (Option Int)} (h : SG c e (rV nC) t) (hl : SG c (part lo) rX tl) (hh : SG c (part hi) rX th) : SG c (eSlS e lo hi) (rV nC) (bindT t fun x => bindT tl fun l => bindT th fun h => grdT (x.length ≤ lim) (cutT x l h)) := fun env st hc Q X ht => by
  unfold eSlS
  refine OkG.bind (h env st hc _ X ht) fun w s x k1 h1 hx => OkG.bind (hl env s (hc.keeps k1) _ X hx) fun l s2 l' k2 h2 hx2 => OkG.bind (hh env s2 ((hc.keeps k1).keeps k2) _ X hx2) fun u s3 u' k3 h3 hx3 => ?_
  have h1 : w = nC x := h1
  have h2 : l = l' := h2
  have h3 : u = u' := h3
  subst h1; subst h2; subst h3
  have hl : (x.map Char.toNat).length ≤ lim := by simpa using hx3.1
  simp only [nC]
  rw [if_pos hl]
  refine ⟨.refl k3.pool, cutT x l u, ?_, hx3.2⟩
  show W.str _ = W.str _
  simp [cutN, cutT]
noncomputable def intC (s : Cs) : Option Int := intN (s.map Char.toNat)
theorem b_intS : OpC (rCons (rV nC) rNil) bIntS (rV nI) fun p => bindT (grdT (p.1.length ≤ 640) ()) fun _ => optT (intC p.1) := by
  rintro s _ ⟨x, u⟩ hp ⟨w, _, rfl, h1, rfl⟩ Q X ⟨q1, n, q2, q3⟩
  have h1 : w = nC x := h1
  subst h1
  have hl : (x.map Char.toNat).length ≤ 640 := by simpa using q1
  have q2 : intN (x.map Char.toNat) = some n := q2
  simp only [bIntS, nC, if_pos hl, q2]
  exact okV (en := nI) hp _ q3
theorem x_fmtS {t : PT Cs} (h : SG c e (rV nC) t) : SG c (eFmt e) (rV nC) (bindT t fun s => grdT (s.length ≤ lim) s) := fun env st hc Q X ht => by
  unfold eFmt
  refine OkG.bind (h env st hc _ X ht) fun w s x k1 h1 hx => ?_
  have h1 : w = nC x := h1
  subst h1
  have hl : (x.map Char.toNat).length ≤ lim := by simpa using hx.1
  simp only [nC, fmtW, if_pos hl]
  exact okV (en := nC) k1.pool x hx.2
theorem x_fmtI {t : PT Int} (h : SG c e (rV nI) t) : SG c (eFmt e) (rV nC) (bindT t fun i => grdT (i.natAbs.log2 < 1920) (strI i)) := fun env st hc Q X ht => by
  unfold eFmt
  refine OkG.bind (h env st hc _ X ht) fun w s x k1 h1 hx => ?_
  have h1 : w = nI x := h1
  subst h1
  simp only [nI, fmtW, if_pos hx.1]
  exact okV (en := nC) k1.pool _ hx.2
/-- the parts of an f-string, behind a text -/
def SJ (c : Ctx) (ts : List IE) (t : Cs → PT Cs) : Prop := ∀ acc : Cs, SG c (jGo ts (acc.map Char.toNat)) (rV nC) (t acc)
theorem j_nil : SJ c [] fun acc => pureT acc := fun acc env st hc Q X ht => okV (en := nC) hc.keep.pool acc ht
theorem j_cons {ts : List IE} {ta : PT Cs} {t : Cs → PT Cs} (ha : SG c a (rV nC) ta) (h : SJ c ts t) : SJ c (a :: ts) fun acc => bindT ta fun s => bindT (grdT (acc.length + s.length ≤ lim) ()) fun _ => t (acc ++ s) := fun acc env st hc Q X ht => by
  unfold jGo
  refine OkG.bind (ha env st hc _ X ht) fun w s x k1 h1 hx => ?_
  have h1 : w = nC x := h1
  subst h1
  have hl : (acc.map Char.toNat ++ x.map Char.toNat).length ≤ lim := by simpa using hx.1
  simp only [nC]
  rw [if_pos hl, ← List.map_append]
  exact h (acc ++ x) env s (hc.keeps k1) Q X hx.2
theorem x_joined {ts : List IE} {t : Cs → PT Cs} (h : SJ c ts t) : SG c (eJoin ts) (rV nC) (t []) := h []
theorem ind_un {i : Nat} {x y : W} {f g : IE} {u : W → Store → R W} (h : IndE i x y f g) : IndE i x y (eUn u f) (eUn u g) := fun e st => by
  simp only [eUn, h e st]
theorem l_sortU' {t : PT (List Int)} (h : SG c a (rL nI) t) : SG c (lSortU a) (rLs nI) (bindT t fun x => grdT (x.length < 64) (uSort x)) := fun env st hc Q X ht => by
  unfold lSortU
  refine OkG.bind (h env st hc _ X ht) fun w s x k1 h1 hx => ?_
  simp only [lstOf_rL h1, Option.bind_some, ints_map, if_pos hx.1]
  exact ⟨.refl k1.pool, uSort x, rfl, hx.2⟩
end M

-- Bodies
set_option linter.all false
namespace M
noncomputable def b_Lpool : IS :=
  (sSeq (sSet 1 (eC (.int 7)))
  (sSeq (sFor (iSeq (eLst (lSl (eVar 0) none (some (eC (.int 63)))))) (tgName 2)
  (sSet 1 (eOp opMod (eB bInt [(eOp opAdd (eOp opMul (eVar 1) (eC (.int 31))) (eVar 2))]) (eC (.int 1000003)))))
  (sRet (eNew (eArgs [(eLst (lList (eVar 0))), (eC (.int 0)), (eC (.int 0)), (eC (.int 0)), (eVar 1)])))))
noncomputable def f_Lpool : Fn := runDef 3 .lst b_Lpool
noncomputable def b_Lspread : IS :=
  (sSeq (sSet 1 (eOp opMod (eB bInt [(eVar 0)]) (eC (.int 2147483647))))
  (sSeq (sSet 2 (eC (.int 1)))
  (sSeq (sFor (iRange [(eC (.int 4))]) (tgName 3)
  (sSeq (sSet 1 (eOp opMod (eB bInt [(eOp opAdd (eOp opAdd (eOp opMul (eVar 1) (eC (.int 48271))) (eC (.int 12345))) (eVar 3))]) (eC (.int 2147483647))))
  (sSet 2 (eOp opAdd (eOp opMul (eVar 2) (eC (.int 2147483647))) (eVar 1)))))
  (sRet (eVar 2)))))
noncomputable def f_Lspread : Fn := runDef 4 .pur b_Lspread
noncomputable def b_Ldraw : IS :=
  (sSeq (sIf (tAnd (tVal (eOp opLe (eOp opIx (eVar 0) (eC (.int 2))) (eC (.int 0)))) (tVal (eOp opLt (eOp opIx (eVar 0) (eC (.int 1))) (eB bLen [(eOp opIx (eVar 0) (eC (.int 0)))])))) (sSeq (sSet 2 (eOp opIx (eOp opIx (eVar 0) (eC (.int 0))) (eOp opIx (eVar 0) (eC (.int 1)))))
  (sSeq (sSetIx (eVar 0) (eC (.int 1)) (eOp opAdd (eOp opIx (eVar 0) (eC (.int 1))) (eC (.int 1))))
  (sSeq (sSetIx (eVar 0) (eC (.int 2)) (eVar 2))
  (sIf (tVal (eOp opLt (eVar 2) (eC (.int 1000000000000000000)))) (sSetIx (eVar 0) (eC (.int 2)) (eCall f_Lspread [(eVar 2)]))
  sSkip))))
  sSkip)
  (sSeq (sSetIx (eVar 0) (eC (.int 3)) (eOp opAdd (eOp opIx (eVar 0) (eC (.int 3))) (eC (.int 1))))
  (sSeq (sIf (tVal (eOp opLe (eOp opIx (eVar 0) (eC (.int 2))) (eC (.int 0)))) (sSeq (sSet 3 (eOp opMod (eB bInt [(eOp opAdd (eOp opAdd (eOp opMul (eOp opIx (eVar 0) (eC (.int 4))) (eC (.int 48271))) (eOp opMul (eOp opIx (eVar 0) (eC (.int 3))) (eC (.int 69621)))) (eC (.int 1)))]) (eC (.int 2147483647))))
  (sSeq (sSet 3 (eOp opMod (eB bInt [(eOp opAdd (eOp opMul (eVar 3) (eC (.int 16807))) (eOp opIx (eVar 0) (eC (.int 3))))]) (eC (.int 2147483629))))
  (sRet (eOp opMod (eOp opDiv (eVar 3) (eC (.int 5))) (eVar 1)))))
  sSkip)
  (sSeq (sSet 4 (eOp opMod (eB bInt [(eOp opIx (eVar 0) (eC (.int 2)))]) (eVar 1)))
  (sSeq (sSetIx (eVar 0) (eC (.int 2)) (eOp opDiv (eOp opIx (eVar 0) (eC (.int 2))) (eVar 1)))
  (sRet (eVar 4)))))))
noncomputable def f_Ldraw : Fn := runDef 5 .pur b_Ldraw
noncomputable def b_Lword : IS :=
  (sSeq (sSet 1 (eC (.str [97, 98, 99, 100, 101, 102, 103, 104, 105, 106, 107, 108, 109, 110, 111, 112, 113, 114, 115, 116, 117, 118, 119, 120, 121, 122])))
  (sSeq (sSet 2 (eC (.str [97, 98, 99, 100, 101, 102, 103, 104, 105, 106, 107, 108, 109, 110, 111, 112, 113, 114, 115, 116, 117, 118, 119, 120, 121, 122, 48, 49, 50, 51, 52, 53, 54, 55, 56, 57, 95])))
  (sSeq (sSet 3 (eOp opIxS (eVar 1) (eCall f_Ldraw [(eVar 0), (eC (.int 26))])))
  (sSeq (sFor (iRange [(eOp opIx (eLst (eArgs [(eC (.int 0)), (eC (.int 0)), (eC (.int 1)), (eC (.int 1)), (eC (.int 2)), (eC (.int 3)), (eC (.int 5)), (eC (.int 12))])) (eCall f_Ldraw [(eVar 0), (eC (.int 8))]))]) (tgName 4)
  (sSet 3 (eOp opAdd (eVar 3) (eOp opIxS (eVar 2) (eCall f_Ldraw [(eVar 0), (eC (.int 37))])))))
  (sSeq (sIf (tVal (eOp (opIn false) (eVar 3) (eLst (eArgs [(eC (.str [99, 101, 108, 108])), (eC (.str [112, 105, 110])), (eC (.str [109, 111, 100, 117, 108, 101])), (eC (.str [103, 97, 116, 101])), (eC (.str [112, 97, 114, 116])), (eC (.str [114, 101, 103])), (eC (.str [101, 100, 103, 101])), (eC (.str [111, 117, 116])), (eC (.str [115, 101, 116, 117, 112])), (eC (.str [104, 111, 108, 100])), (eC (.str [115, 116, 97, 114, 116]))])))) (sSet 3 (eOp opAdd (eVar 3) (eC (.str [95]))))
  sSkip)
  (sRet (eVar 3)))))))
noncomputable def f_Lword : Fn := runDef 5 .pur b_Lword
noncomputable def b_Lnumber : IS :=
  (sSeq (sSet 1 (eOp opIx (eLst (eArgs [(eC (.int 0)), (eCall f_Ldraw [(eVar 0), (eC (.int 9))]), (eCall f_Ldraw [(eVar 0), (eOp opPow (eC (.int 10)) (eC (.int 9)))]), (eCall f_Ldraw [(eVar 0), (eOp opPow (eC (.int 10)) (eC (.int 60)))])])) (eCall f_Ldraw [(eVar 0), (eC (.int 4))])))
  (sRet (eOp opIx (eLst (eArgs [(eVar 1), (eUn unNeg (eVar 1))])) (eCall f_Ldraw [(eVar 0), (eC (.int 2))]))))
noncomputable def f_Lnumber : Fn := runDef 2 .pur b_Lnumber
noncomputable def b_Lbits : IS :=
  (sSeq (sSet 2 (eNew (eArgs [])))
  (sSeq (sFor (iRange [(eVar 1)]) (tgName 3)
  (sSeq (sDrop (eBm "list" mApp (eVar 2) [(eOp opEq (eOp opMod (eB bInt [(eVar 0)]) (eC (.int 2))) (eC (.int 1)))]))
  (sSet 0 (eOp opDiv (eVar 0) (eC (.int 2))))))
  (sRet (eB bTup [(eVar 2)]))))
noncomputable def f_Lbits : Fn := runDef 4 .pur b_Lbits
noncomputable def b_Lmargin : IS :=
  (sRet (eOp opIx (eLst (eArgs [(eC .non), (eCall f_Lnumber [(eVar 0)]), (eCall f_Lnumber [(eVar 0)])])) (eCall f_Ldraw [(eVar 0), (eC (.int 3))])))
noncomputable def f_Lmargin : Fn := runDef 1 .pur b_Lmargin
noncomputable def b_Lreport : IS :=
  (sSeq (sSet 1 (eNew (eArgs [])))
  (sSeq (sSet 2 (eCall f_Ldraw [(eVar 0), (eC (.int 10))]))
  (sSeq (sFor (iRange [(eCall f_Ldraw [(eVar 0), (eC (.int 6))])]) (tgName 3)
  (sSeq (sSet 4 (eBm "str" mJoin (eC (.str [47])) [(eLst (lLC (iRange [(eOp opAdd (eC (.int 1)) (eCall f_Ldraw [(eVar 0), (eC (.int 3))]))]) (tgName 6) tYes (eCall f_Lword [(eVar 0)]) [6]))]))
  (sSeq (sWhile (tVal (eOp (opIn false) (eVar 4) (eLst (lLC (iSeq (eVar 1)) (tgName 7) tYes (eOp opIx (eVar 7) (eC (.int 0))) [7]))))
  (sSet 4 (eOp opAdd (eVar 4) (eC (.str [95])))))
  (sSeq (sSet 5 (eC .non))
  (sSeq (sIf (tVal (eOp opEq (eCall f_Ldraw [(eVar 0), (eC (.int 2))]) (eC (.int 0)))) (sSet 5 (eTup [(eCall f_Lnumber [(eVar 0)]), (eCall f_Lbits [(eCall f_Ldraw [(eVar 0), (eC (.int 512))]), (eVar 2)])]))
  sSkip)
  (sDrop (eBm "list" mApp (eVar 1) [(eTup [(eVar 4), (eCall f_Lmargin [(eVar 0)]), (eCall f_Lmargin [(eVar 0)]), (eVar 5)])])))))))
  (sRet (eTup [(eCall f_Lword [(eVar 0)]), (eOp opAdd (eC (.int 1)) (eCall f_Ldraw [(eVar 0), (eOp opPow (eC (.int 10)) (eC (.int 12)))])), (eB bTup [(eVar 1)])])))))
noncomputable def f_Lreport : Fn := runDef 8 .pur b_Lreport
noncomputable def b_Lshown : IS :=
  (sSeq (sIf (tVal (eOp opIsN (eVar 0) (eC .non))) (sRet (eC (.str [110, 111, 110, 101])))
  sSkip)
  (sRet (eB bStr [(eVar 0)])))
noncomputable def f_Lshown : Fn := runDef 1 .pur b_Lshown
noncomputable def b_Ltext : IS :=
  (sSeq (sSet 1 (eOp opAdd (eOp opAdd (eOp opAdd (eOp opAdd (eC (.str [109, 111, 100, 117, 108, 101, 32])) (eOp opIx (eVar 0) (eC (.int 0)))) (eC (.str [32, 112, 101, 114, 105, 111, 100, 32]))) (eB bStr [(eOp opIx (eVar 0) (eC (.int 1)))])) (eC (.str [10]))))
  (sSeq (sFor (iSeq (eOp opIx (eVar 0) (eC (.int 2)))) (tgName 2)
  (sSeq (sSet 1 (eOp opAdd (eOp opAdd (eOp opAdd (eOp opAdd (eOp opAdd (eOp opAdd (eVar 1) (eC (.str [114, 101, 103, 32]))) (eOp opIx (eVar 2) (eC (.int 0)))) (eC (.str [32, 115, 101, 116, 117, 112, 32]))) (eCall f_Lshown [(eOp opIx (eVar 2) (eC (.int 1)))])) (eC (.str [32, 104, 111, 108, 100, 32]))) (eCall f_Lshown [(eOp opIx (eVar 2) (eC (.int 2)))])))
  (sIf (tVal (eOp opIsN (eOp opIx (eVar 2) (eC (.int 3))) (eC .non))) (sSet 1 (eOp opAdd (eVar 1) (eC (.str [32, 111, 107, 10]))))
  (sSeq (sSet 3 (eBm "str" mJoin (eC (.str [])) [(eLst (lLC (iSeq (eOp opIx (eOp opIx (eVar 2) (eC (.int 3))) (eC (.int 1)))) (tgName 5) tYes (eOp opIx (eLst (eArgs [(eC (.str [48])), (eC (.str [49]))])) (eB bInt [(eVar 5)])) [5]))]))
  (sSeq (sIf (tVal (eOp opEq (eVar 3) (eC (.str [])))) (sSet 3 (eC (.str [45])))
  sSkip)
  (sSet 1 (eOp opAdd (eOp opAdd (eOp opAdd (eOp opAdd (eOp opAdd (eVar 1) (eC (.str [32, 108, 111, 111, 115, 101, 32, 97, 116, 32]))) (eB bStr [(eOp opIx (eOp opIx (eVar 2) (eC (.int 3))) (eC (.int 0)))])) (eC (.str [32, 102, 111, 114, 32]))) (eVar 3)) (eC (.str [10])))))))))
  (sSeq (sSet 4 (eOp opEq (eLst (lLC (iSeq (eOp opIx (eVar 0) (eC (.int 2)))) (tgName 2) (tVal (eOp opNotN (eOp opIx (eVar 2) (eC (.int 3))) (eC .non))) (eVar 2) [2])) (eLst (eArgs []))))
  (sRet (eOp opAdd (eVar 1) (eOp opIx (eLst (eArgs [(eC (.str [110, 111, 116, 32, 99, 108, 101, 97, 110, 10])), (eC (.str [99, 108, 101, 97, 110, 10]))])) (eB bInt [(eVar 4)])))))))
noncomputable def f_Ltext : Fn := runDef 6 .pur b_Ltext
noncomputable def b_Lsame (C : Fn) : IS :=
  (sSeq (sIf (tOr (tTru (eIsi "tuple" (eVar 1))) (tTru (eIsi "list" (eVar 1)))) (sSeq (sIf (tOr (tVal (eOp opNe (eIsi "tuple" (eVar 1)) (eIsi "tuple" (eVar 0)))) (tVal (eOp opNe (eIsi "list" (eVar 1)) (eIsi "list" (eVar 0))))) (sRet (eC (.bl false)))
  sSkip)
  (sSeq (sIf (tVal (eOp opNe (eB bLen [(eVar 0)]) (eB bLen [(eVar 1)]))) (sRet (eC (.bl false)))
  sSkip)
  (sSeq (sFor (iRange [(eB bLen [(eVar 1)])]) (tgName 2)
  (sIf (tNot (tTru (eCall C [(eOp opIx (eVar 0) (eVar 2)), (eOp opIx (eVar 1) (eVar 2))]))) (sRet (eC (.bl false)))
  sSkip))
  (sRet (eC (.bl true))))))
  sSkip)
  (sSeq (sIf (tVal (eOp opIsN (eVar 1) (eC .non))) (sRet (eOp opIsN (eVar 0) (eC .non)))
  sSkip)
  (sSeq (sIf (tTru (eIsi "bool" (eVar 1))) (sRet (eAndV (eIsi "bool" (eVar 0)) (eOp opEq (eVar 0) (eVar 1))))
  sSkip)
  (sSeq (sIf (tTru (eIsi "int" (eVar 1))) (sRet (eAndV (eIsi "int" (eVar 0)) (eAndV (eNotV (eIsi "bool" (eVar 0))) (eOp opEq (eVar 0) (eVar 1)))))
  sSkip)
  (sRet (eAndV (eIsi "str" (eVar 0)) (eOp opEq (eVar 0) (eVar 1))))))))
noncomputable def f_Lsame : Nat → Fn
  | 0 => fun _ _ => .stuck
  | k + 1 => runDef 3 .pur (b_Lsame (f_Lsame k))
noncomputable def b_read_integer : IS :=
  (sSeq (sSet 1 (eBm "str" mRemP (eVar 0) [(eC (.str [45]))]))
  (sSeq (sIf (tOr (tVal (eOp opEq (eVar 1) (eC (.str [])))) (tOr (tVal (eOp opGt (eB bLen [(eVar 1)]) (eC (.int (60))))) (tAnd (tVal (eOp opEq (eOp opIxS (eVar 1) (eC (.int 0))) (eC (.str [48])))) (tVal (eOp opNe (eVar 0) (eC (.str [48]))))))) (sRaise "BadReport" (eC .non))
  sSkip)
  (sSeq (sFor (iTxt (eVar 1)) (tgName 2)
  (sIf (tVal (eOp (opInG true) (eVar 2) (eC (.str [48, 49, 50, 51, 52, 53, 54, 55, 56, 57])))) (sRaise "BadReport" (eC .non))
  sSkip))
  (sRet (eB bIntS [(eVar 0)])))))
noncomputable def f_read_integer : Fn := runDef 3 .pur b_read_integer
noncomputable def b_is_word : IS :=
  (sRet (eOp (opInG false) (eOp opIxS (eVar 0) (eC (.int 0))) (eC (.str [97, 98, 99, 100, 101, 102, 103, 104, 105, 106, 107, 108, 109, 110, 111, 112, 113, 114, 115, 116, 117, 118, 119, 120, 121, 122]))))
noncomputable def f_is_word : Fn := runDef 1 .pur b_is_word
noncomputable def b_is_name : IS :=
  (sRet (eAndV (eCall f_is_word [(eVar 0)]) (eOp (opIn true) (eVar 0) (eC (.tup [.str [99, 101, 108, 108], .str [112, 105, 110], .str [109, 111, 100, 117, 108, 101], .str [103, 97, 116, 101], .str [112, 97, 114, 116], .str [114, 101, 103], .str [101, 100, 103, 101], .str [111, 117, 116], .str [115, 101, 116, 117, 112], .str [104, 111, 108, 100], .str [115, 116, 97, 114, 116]])))))
noncomputable def f_is_name : Fn := runDef 1 .pur b_is_name
noncomputable def b_read_name : IS :=
  (sSeq (sFor (iTxt (eVar 0)) (tgName 1)
  (sIf (tVal (eOp (opInG true) (eVar 1) (eC (.str [97, 98, 99, 100, 101, 102, 103, 104, 105, 106, 107, 108, 109, 110, 111, 112, 113, 114, 115, 116, 117, 118, 119, 120, 121, 122, 48, 49, 50, 51, 52, 53, 54, 55, 56, 57, 95])))) (sRaise "BadReport" (eC .non))
  sSkip))
  (sSeq (sIf (tOr (tVal (eOp opEq (eVar 0) (eC (.str [])))) (tNot (tTru (eCall f_is_name [(eVar 0)])))) (sRaise "BadReport" (eC .non))
  sSkip)
  (sRet (eVar 0))))
noncomputable def f_read_name : Fn := runDef 2 .pur b_read_name
noncomputable def b_read_margin : IS :=
  (sRet (eIf (tVal (eOp opEq (eVar 0) (eC (.str [110, 111, 110, 101])))) (eC .non) (eCall f_read_integer [(eVar 0)])))
noncomputable def f_read_margin : Fn := runDef 1 .pur b_read_margin
noncomputable def b_read_bits : IS :=
  (sSeq (sIf (tVal (eOp opEq (eVar 0) (eC (.str [45])))) (sRet (eTup []))
  sSkip)
  (sSeq (sFor (iTxt (eVar 0)) (tgName 1)
  (sIf (tVal (eOp (opInG true) (eVar 1) (eC (.str [48, 49])))) (sRaise "BadReport" (eC .non))
  sSkip))
  (sSeq (sIf (tVal (eOp opEq (eVar 0) (eC (.str [])))) (sRaise "BadReport" (eC .non))
  sSkip)
  (sRet (eB bTup [(eLst (lLC (iTxt (eVar 0)) (tgName 1) tYes (eOp opEq (eVar 1) (eC (.str [49]))) [1]))])))))
noncomputable def f_read_bits : Fn := runDef 2 .pur b_read_bits
noncomputable def b_read_row : IS :=
  (sSeq (sSet 1 (eLst (lSplit (eVar 0) (eC (.str [32])))))
  (sSeq (sIf (tOr (tVal (eOp (opIn true) (eB bLen [(eVar 1)]) (eTup [(eC (.int 7)), (eC (.int 11))]))) (tVal (eOp opNe (eLst (eArgs [(eOp opIx (eVar 1) (eC (.int 0))), (eOp opIx (eVar 1) (eC (.int 2))), (eOp opIx (eVar 1) (eC (.int 4)))])) (eLst (eArgs [(eC (.str [114, 101, 103])), (eC (.str [115, 101, 116, 117, 112])), (eC (.str [104, 111, 108, 100]))]))))) (sRaise "BadReport" (eC .non))
  sSkip)
  (sSeq (sFor (iSeq (eLst (lSplit (eOp opIx (eVar 1) (eC (.int 1))) (eC (.str [47]))))) (tgName 2)
  (sDrop (eCall f_read_name [(eVar 2)])))
  (sSeq (sSet 3 (eC .non))
  (sSeq (sIf (tVal (eOp opEq (eB bLen [(eVar 1)]) (eC (.int 11)))) (sSeq (sIf (tVal (eOp opNe (eLst (eArgs [(eOp opIx (eVar 1) (eC (.int 6))), (eOp opIx (eVar 1) (eC (.int 7))), (eOp opIx (eVar 1) (eC (.int 9)))])) (eLst (eArgs [(eC (.str [108, 111, 111, 115, 101])), (eC (.str [97, 116])), (eC (.str [102, 111, 114]))])))) (sRaise "BadReport" (eC .non))
  sSkip)
  (sSet 3 (eTup [(eCall f_read_integer [(eOp opIx (eVar 1) (eC (.int 8)))]), (eCall f_read_bits [(eOp opIx (eVar 1) (eC (.int 10)))])])))
  (sIf (tVal (eOp opNe (eOp opIx (eVar 1) (eC (.int 6))) (eC (.str [111, 107])))) (sRaise "BadReport" (eC .non))
  sSkip))
  (sRet (eTup [(eOp opIx (eVar 1) (eC (.int 1))), (eCall f_read_margin [(eOp opIx (eVar 1) (eC (.int 3)))]), (eCall f_read_margin [(eOp opIx (eVar 1) (eC (.int 5)))]), (eVar 3)])))))))
noncomputable def f_read_row : Fn := runDef 4 .pur b_read_row
noncomputable def b_is_clean_report : IS :=
  (sRet (eOp opEq (eLst (lLC (iSeq (eOp opIx (eVar 0) (eC (.int 2)))) (tgName 1) (tVal (eOp opNotN (eOp opIx (eVar 1) (eC (.int 3))) (eC .non))) (eVar 1) [1])) (eLst (eArgs []))))
noncomputable def f_is_clean_report : Fn := runDef 2 .pur b_is_clean_report
noncomputable def b_read_report : IS :=
  (sSeq (sSet 1 (eLst (lSplit (eVar 0) (eC (.str [10])))))
  (sSeq (sSet 2 (eLst (lSplit (eOp opIx (eVar 1) (eC (.int 0))) (eC (.str [32])))))
  (sSeq (sIf (tOr (tVal (eOp opLt (eB bLen [(eVar 1)]) (eC (.int 3)))) (tOr (tVal (eOp opNe (eOp opIx (eVar 1) (eUn unNeg (eC (.int 1)))) (eC (.str [])))) (tOr (tVal (eOp opNe (eB bLen [(eVar 2)]) (eC (.int 4)))) (tVal (eOp opNe (eLst (eArgs [(eOp opIx (eVar 2) (eC (.int 0))), (eOp opIx (eVar 2) (eC (.int 2)))])) (eLst (eArgs [(eC (.str [109, 111, 100, 117, 108, 101])), (eC (.str [112, 101, 114, 105, 111, 100]))]))))))) (sRaise "BadReport" (eC .non))
  sSkip)
  (sSeq (sSet 3 (eCall f_read_integer [(eOp opIx (eVar 2) (eC (.int 3)))]))
  (sSeq (sSet 4 (eLst (lLC (iSeq (eLst (lSl (eVar 1) (some (eC (.int 1))) (some (eUn unNeg (eC (.int 2))))))) (tgName 7) tYes (eCall f_read_row [(eVar 7)]) [7])))
  (sSeq (sSet 5 (eTup [(eCall f_read_name [(eOp opIx (eVar 2) (eC (.int 1)))]), (eVar 3), (eB bTup [(eVar 4)])]))
  (sSeq (sSet 6 (eLst (lSortU (eLst (lLC (iSeq (eVar 4)) (tgName 8) (tVal (eOp opNotN (eOp opIx (eVar 8) (eC (.int 3))) (eC .non))) (eB bLen [(eOp opIx (eOp opIx (eVar 8) (eC (.int 3))) (eC (.int 1)))]) [8])))))
  (sSeq (sIf (tOr (tVal (eOp opLt (eVar 3) (eC (.int 1)))) (tOr (tVal (eOp opGt (eB bLen [(eVar 6)]) (eC (.int 1)))) (tVal (eOp opLt (eLenSet (eLst (lLC (iSeq (eVar 4)) (tgName 8) tYes (eOp opIx (eVar 8) (eC (.int 0))) [8]))) (eB bLen [(eVar 4)]))))) (sRaise "BadReport" (eC .non))
  sSkip)
  (sSeq (sIf (tVal (eOp opNe (eOp opIx (eVar 1) (eUn unNeg (eC (.int 2)))) (eIf (tTru (eCall f_is_clean_report [(eVar 5)])) (eC (.str [99, 108, 101, 97, 110])) (eC (.str [110, 111, 116, 32, 99, 108, 101, 97, 110]))))) (sRaise "BadReport" (eC .non))
  sSkip)
  (sRet (eVar 5)))))))))))
noncomputable def f_read_report : Fn := runDef 9 .pur b_read_report
noncomputable def b_show_margin : IS :=
  (sRet (eIf (tVal (eOp opIsN (eVar 0) (eC .non))) (eC (.str [110, 111, 110, 101])) (eB bStr [(eVar 0)])))
noncomputable def f_show_margin : Fn := runDef 1 .pur b_show_margin
noncomputable def b_show_bits : IS :=
  (sRet (eIf (tTru (eVar 0)) (eBm "str" mJoin (eC (.str [])) [(eLst (lLC (iSeq (eVar 0)) (tgName 1) tYes (eIf (tTru (eVar 1)) (eC (.str [49])) (eC (.str [48]))) [1]))]) (eC (.str [45]))))
noncomputable def f_show_bits : Fn := runDef 2 .pur b_show_bits
noncomputable def b_write_report : IS :=
  (sSeq (sAsg (tgTup [(tgName 1), (tgName 2), (tgName 3)]) (eVar 0))
  (sSeq (sSet 4 (eNew (eArgs [(eJoin [(eC (.str [109, 111, 100, 117, 108, 101, 32])), (eFmt (eVar 1)), (eC (.str [32, 112, 101, 114, 105, 111, 100, 32])), (eFmt (eVar 2))])])))
  (sSeq (sFor (iSeq (eVar 3)) (tgTup [(tgName 5), (tgName 6), (tgName 7), (tgName 8)])
  (sSeq (sSet 9 (eJoin [(eC (.str [114, 101, 103, 32])), (eFmt (eVar 5)), (eC (.str [32, 115, 101, 116, 117, 112, 32])), (eFmt (eCall f_show_margin [(eVar 6)])), (eC (.str [32, 104, 111, 108, 100, 32])), (eFmt (eCall f_show_margin [(eVar 7)]))]))
  (sIf (tVal (eOp opIsN (eVar 8) (eC .non))) (sDrop (eBm "list" mApp (eVar 4) [(eOp opAdd (eVar 9) (eC (.str [32, 111, 107])))]))
  (sDrop (eBm "list" mApp (eVar 4) [(eJoin [(eFmt (eVar 9)), (eC (.str [32, 108, 111, 111, 115, 101, 32, 97, 116, 32])), (eFmt (eOp opIx (eVar 8) (eC (.int 0)))), (eC (.str [32, 102, 111, 114, 32])), (eFmt (eCall f_show_bits [(eOp opIx (eVar 8) (eC (.int 1)))]))])])))))
  (sSeq (sDrop (eBm "list" mApp (eVar 4) [(eIf (tTru (eCall f_is_clean_report [(eVar 0)])) (eC (.str [99, 108, 101, 97, 110])) (eC (.str [110, 111, 116, 32, 99, 108, 101, 97, 110])))]))
  (sRet (eBm "str" mJoin (eC (.str [])) [(eLst (lLC (iSeq (eVar 4)) (tgName 9) tYes (eOp opAdd (eVar 9) (eC (.str [10]))) [9]))]))))))
noncomputable def f_write_report : Fn := runDef 10 .pur b_write_report
noncomputable def b_law : IS :=
  (sSeq (sSet 1 (eCall f_Lpool [(eVar 0)]))
  (sSeq (sFor (iRange [(eC (.int 4))]) (tgName 2)
  (sSeq (sSet 3 (eCall f_Lreport [(eVar 1)]))
  (sSeq (sSet 4 (eCall f_Ltext [(eVar 3)]))
  (sSeq (sSet 5 (eOp opEq (eLst (lLC (iSeq (eOp opIx (eVar 3) (eC (.int 2)))) (tgName 6) (tVal (eOp opNotN (eOp opIx (eVar 6) (eC (.int 3))) (eC .non))) (eVar 6) [6])) (eLst (eArgs []))))
  (sSeq (sIf (tOr (tNot (tTru (eCall (f_Lsame 8) [(eCall f_write_report [(eVar 3)]), (eVar 4)]))) (tNot (tTru (eCall (f_Lsame 8) [(eCall f_is_clean_report [(eVar 3)]), (eVar 5)])))) (sRet (eC (.bl false)))
  sSkip)
  (sIf (tNot (tTru (eCall (f_Lsame 8) [(eCall f_read_report [(eVar 4)]), (eVar 3)]))) (sRet (eC (.bl false)))
  sSkip))))))
  (sRet (eC (.bl true)))))
noncomputable def f_law : Fn := runDef 7 .pur b_law
end M

-- Pre
set_option autoImplicit false
set_option linter.all false
set_option maxRecDepth 100000
namespace M
open Classical
/-! the pool and its draws -/
/-- an answer that may have drawn -/
def Gets (r : R W) (st : Store) (Q : W → Prop) : Prop := ∃ w c, Pool c ∧ r = .ok w (c :: st) ∧ Q w
theorem spread_ok (v : Int) (st : Store) : ∃ t : Int, f_Lspread [.int v] st = .ok (.int t) st := by
  simp only [f_Lspread, runDef, b_Lspread]
  simp
  generalize hr : forGo _ _ _ _ _ _ = r
  have key : ∃ a b x y, r = .nx [a, some (.int x), some (.int y), b] st := by
    rw [← hr]
    refine forGo_up (P := fun r => ∃ a b x y, r = .nx [a, some (.int x), some (.int y), b] st) 0 4 (fun _ env s => s = st ∧ ∃ a b x y, env = [a, some (.int x), some (.int y), b]) ?_ ?_ _ _ ⟨rfl, _, _, _, _, rfl⟩
    · rintro k hk env s ⟨rfl, a, b, x, y, rfl⟩
      simp
    · rintro env s ⟨rfl, a, b, x, y, rfl⟩
      exact ⟨trivial, a, b, x, y, rfl⟩
  obtain ⟨a, b, x, y, rfl⟩ := key
  exact ⟨y, by simp; exact fin_pur0 (by simp) (by simp)⟩
theorem mod_range (a m : Int) (h : 0 < m) : 0 ≤ a % m ∧ a % m < m := ⟨Int.emod_nonneg _ (by omega), Int.emod_lt_of_pos _ h⟩
theorem draw_ok {c : Cell} (hc : Pool c) (m : Int) (h : 0 < m) (hm : m.natAbs.log2 < 9000) (st : Store) : ∃ (v : Int) (c1 : Cell), Pool c1 ∧ f_Ldraw [.loc 0, .int m] (c :: st) = .ok (.int v) (c1 :: st) ∧ 0 ≤ v ∧ v < m := by
  obtain ⟨ns, i, v, k, s, rfl, hi⟩ := hc
  simp only [f_Ldraw, runDef, b_Ldraw]
  have hc0 : Pool (.lst [.lst (ns.map .int), .int i, .int v, .int k, .int s]) := ⟨ns, i, v, k, s, rfl, hi⟩
  have fin1 : ∀ (c0 c1 : Cell) (x : Int), Pool c1 → Pool c0 → fin .pur (c0 :: st) (.int x) (c1 :: st) = .ok (.int x) (c1 :: st) := fun c0 c1 x hp h0 => fin_pool0 (h0.bd2 hp _) (by simp) (by simp)
  -- the second part
  have tail : ∀ (ns : List Int) (i v k s : Int) (y z u : Option W), 0 ≤ i → ∃ (x : Int) (c1 : Cell), Pool c1 ∧ 0 ≤ x ∧ x < m ∧ (sSeq (sSetIx (eVar 0) (eC (.int 3)) (eOp opAdd (eOp opIx (eVar 0) (eC (.int 3))) (eC (.int 1))))
  (sSeq (sIf (tVal (eOp opLe (eOp opIx (eVar 0) (eC (.int 2))) (eC (.int 0)))) (sSeq (sSet 3 (eOp opMod (eB bInt [(eOp opAdd (eOp opAdd (eOp opMul (eOp opIx (eVar 0) (eC (.int 4))) (eC (.int 48271))) (eOp opMul (eOp opIx (eVar 0) (eC (.int 3))) (eC (.int 69621)))) (eC (.int 1)))]) (eC (.int 2147483647))))
  (sSeq (sSet 3 (eOp opMod (eB bInt [(eOp opAdd (eOp opMul (eVar 3) (eC (.int 16807))) (eOp opIx (eVar 0) (eC (.int 3))))]) (eC (.int 2147483629))))
  (sRet (eOp opMod (eOp opDiv (eVar 3) (eC (.int 5))) (eVar 1)))))
  sSkip)
  (sSeq (sSet 4 (eOp opMod (eB bInt [(eOp opIx (eVar 0) (eC (.int 2)))]) (eVar 1)))
  (sSeq (sSetIx (eVar 0) (eC (.int 2)) (eOp opDiv (eOp opIx (eVar 0) (eC (.int 2))) (eVar 1)))
  (sRet (eVar 4)))))) [some (.loc 0), some (.int m), y, z, u] (.lst [.lst (ns.map .int), .int i, .int v, .int k, .int s] :: st) = .ret (.int x) (c1 :: st) := by
    intro ns i v k s y z u hi
    by_cases hv : v ≤ 0
    · simp [hv, h]
      exact ⟨_, _, ⟨ns, i, v, k + 1, s, rfl, hi⟩, (mod_range _ m h).1, (mod_range _ m h).2, rfl, rfl⟩
    · simp [hv, h, hm]
      exact ⟨_, _, ⟨ns, i, _, k + 1, s, rfl, hi⟩, (mod_range _ m h).1, (mod_range _ m h).2, rfl, rfl⟩
  by_cases h1 : v ≤ 0 ∧ i < ns.length
  · obtain ⟨hv, hl⟩ := h1
    obtain ⟨n, rfl⟩ := Int.eq_ofNat_of_zero_le hi
    have hl' : n < ns.length := by omega
    obtain ⟨t, ht⟩ := spread_ok ns[n] (.lst [.lst (ns.map .int), .int (n + 1), .int ns[n], .int k, .int s] :: st)
    by_cases hs : ns[n] < 1000000000000000000
    · obtain ⟨x, c1, p1, p2, p3, p4⟩ := tail ns (n + 1) t k s (some (.int ns[n])) none none (by omega)
      refine ⟨x, c1, p1, ?_, p2, p3⟩
      rw [sSeq]
      generalize hb : sSeq _ _ = bb at p4
      simp [hv, hl, hl', hs, ht, p4]
      exact fin1 _ _ _ p1 hc0
    · obtain ⟨x, c1, p1, p2, p3, p4⟩ := tail ns (n + 1) ns[n] k s (some (.int ns[n])) none none (by omega)
      refine ⟨x, c1, p1, ?_, p2, p3⟩
      rw [sSeq]
      generalize hb : sSeq _ _ = bb at p4
      simp [hv, hl, hl', hs, p4]
      exact fin1 _ _ _ p1 hc0
  · obtain ⟨x, c1, p1, p2, p3, p4⟩ := tail ns i v k s none none none hi
    refine ⟨x, c1, p1, ?_, p2, p3⟩
    rw [sSeq]
    rcases Decidable.not_and_iff_not_or_not.1 h1 with h1 | h1
    · have h2 : decide (v ≤ 0) = false := by simpa using h1
      generalize hb : sSeq _ _ = bb at p4
      simp [h2, p4]
      exact fin1 _ _ _ p1 hc0
    · by_cases hv : v ≤ 0
      · generalize hb : sSeq _ _ = bb at p4
        simp [h1, hv, p4]
        exact fin1 _ _ _ p1 hc0
      · generalize hb : sSeq _ _ = bb at p4
        simp [h1, hv, p4]
        exact fin1 _ _ _ p1 hc0
theorem draw_nat {c : Cell} (hc : Pool c) (m : Int) (h : 0 < m) (hm : m < 9000) (st : Store) : ∃ (v : Nat) (c1 : Cell), Pool c1 ∧ f_Ldraw [.loc 0, .int m] (c :: st) = .ok (.int v) (c1 :: st) ∧ (v : Int) < m := by
  obtain ⟨v, c1, p, q, r, s⟩ := draw_ok hc m h (log_small _ (by omega)) st
  exact ⟨v.toNat, c1, p, by rw [q, Int.toNat_of_nonneg r], by omega⟩
theorem pool_ok (ns : List Int) (h : ns.length ≤ 63) : ∃ c, Pool c ∧ f_Lpool [.ro (ns.map .int)] [] = .ok (.loc 0) [c] := by
  simp only [f_Lpool, runDef, b_Lpool]
  simp
  generalize hr : forGo _ _ _ _ _ _ = r
  have key : ∃ (x : Option W) (a : Int) (b : Option W), r = .nx [x, some (.int a), b] [] ∧ x = some (.ro (ns.map .int)) := by
    rw [← hr]
    rw [show cutW (ns.map W.int) none (some 63) = (ns.take 63).map W.int by simp [cutW, sIxN]]
    refine forGo_ix (P := fun r => ∃ (x : Option W) (a : Int) (b : Option W), r = .nx [x, some (.int a), b] [] ∧ x = some (.ro (ns.map .int))) _ (fun _ env s => s = [] ∧ ∃ (a : Int) (b : Option W), env = [some (.ro (ns.map .int)), some (.int a), b]) ?_ ?_ _ _ ⟨rfl, _, _, rfl⟩
    · rintro k hk env s ⟨rfl, a, b, rfl⟩
      simp
    · rintro env s ⟨rfl, a, b, rfl⟩
      exact ⟨trivial, _, a, b, rfl, rfl⟩
  obtain ⟨x, a, b, rfl, rfl⟩ := key
  simp [fin]
  refine ⟨_, ⟨ns, 0, 0, 0, a, rfl, by omega⟩, ?_⟩
  rw [if_pos ⟨by simp, by simp⟩]
/-! _law_same of a value with itself -/
mutual
def W.fit : W → Nat → Bool
  | .str s, _ => s.all (· < 1114112)
  | .tup ws, n + 1 => decide (ws.length < 9000000) && fitL ws n
  | .lst ws, n + 1 => decide (ws.length < 9000000) && fitL ws n
  | .non, _ => true
  | .bl _, _ => true
  | .int _, _ => true
  | _, _ => false
def fitL : List W → Nat → Bool
  | [], _ => true
  | w :: ws, n => w.fit n && fitL ws n
end
@[simp] theorem fitL_eq (ws : List W) (n : Nat) : fitL ws n = ws.all fun w => w.fit n := by
  induction ws with
  | nil => simp [fitL]
  | cons w ws ih => simp [fitL, ih]
@[simp] theorem fit_non (n : Nat) : W.non.fit n = true := by cases n <;> simp [W.fit]
@[simp] theorem fit_bl (b : Bool) (n : Nat) : (W.bl b).fit n = true := by cases n <;> simp [W.fit]
@[simp] theorem fit_int (b : Int) (n : Nat) : (W.int b).fit n = true := by cases n <;> simp [W.fit]
@[simp] theorem fit_str (b : List Nat) (n : Nat) : (W.str b).fit n = b.all (· < 1114112) := by cases n <;> simp [W.fit]
@[simp] theorem fit_tup (ws : List W) (n : Nat) : (W.tup ws).fit (n + 1) = (decide (ws.length < 9000000) && ws.all fun w => w.fit n) := by simp [W.fit]
@[simp] theorem fit_lst (ws : List W) (n : Nat) : (W.lst ws).fit (n + 1) = (decide (ws.length < 9000000) && ws.all fun w => w.fit n) := by simp [W.fit]
theorem same_seq (C : Fn) (ws : List W) (hl : ws.length < 9000000) (st : Store) (T : List W → W) (hT : T = .tup ∨ T = .lst) (hC : ∀ w ∈ ws, C [w, w] st = .ok (.bl true) st) : runDef 3 .pur (b_Lsame C) [T ws, T ws] st = .ok (.bl true) st := by
  simp only [runDef, b_Lsame]
  rcases hT with rfl | rfl
  all_goals
    simp [hl, isT]
    generalize hr : forGo _ _ _ _ _ _ = r
  · have key : ∃ y, r = .nx [some (.tup ws), some (.tup ws), y] st := by
      rw [← hr]
      refine forGo_up (P := fun r => ∃ y, r = .nx [some (.tup ws), some (.tup ws), y] st) 0 _ (fun k env s => s = st ∧ ∃ y, env = [some (.tup ws), some (.tup ws), y]) ?_ ?_ _ _ ⟨rfl, none, rfl⟩
      · rintro k hk env s ⟨rfl, y, rfl⟩
        refine ⟨trivial, _, rfl, ?_⟩
        simp [hk, hC]
      · rintro env s ⟨rfl, y, rfl⟩
        exact ⟨trivial, _, rfl⟩
    obtain ⟨y, rfl⟩ := key
    simp
    exact fin_pur0 (by simp) (by simp)
  · have key : ∃ y, r = .nx [some (.lst ws), some (.lst ws), y] st := by
      rw [← hr]
      refine forGo_up (P := fun r => ∃ y, r = .nx [some (.lst ws), some (.lst ws), y] st) 0 _ (fun k env s => s = st ∧ ∃ y, env = [some (.lst ws), some (.lst ws), y]) ?_ ?_ _ _ ⟨rfl, none, rfl⟩
      · rintro k hk env s ⟨rfl, y, rfl⟩
        refine ⟨trivial, _, rfl, ?_⟩
        simp [hk, hC]
      · rintro env s ⟨rfl, y, rfl⟩
        exact ⟨trivial, _, rfl⟩
    obtain ⟨y, rfl⟩ := key
    simp
    exact fin_pur0 (by simp) (by simp)
theorem same_flat (C : Fn) (w : W) (h : w.flat = true) (hs : w.fit 0 = true) (st : Store) : runDef 3 .pur (b_Lsame C) [w, w] st = .ok (.bl true) st := by
  simp only [runDef, b_Lsame]
  cases w <;> simp at h <;> simp [isT] at hs ⊢
  case str s =>
    have hs : (s.all fun x => decide (x < 1114112)) = true := by simpa using hs
    rw [if_pos (by simpa using hs)]
    first | exact fin_pur0 (by simp) (by simp) | (simp; exact fin_pur0 (by simp) (by simp))
  all_goals exact fin_pur0 (by simp) (by simp)
theorem same_ok (d : Nat) : ∀ (w : W), w.fit d = true → ∀ st : Store, f_Lsame (d + 1) [w, w] st = .ok (.bl true) st := by
  induction d with
  | zero =>
    intro w h st
    rw [f_Lsame]
    cases w <;> simp [W.fit] at h
    all_goals exact same_flat _ _ (by simp) (by simp [W.fit]; try exact h) st
  | succ d ih =>
    intro w h st
    rw [f_Lsame]
    generalize hC : f_Lsame (d + 1) = C at *
    cases w <;> simp [W.fit] at h
    case tup ws => exact same_seq C ws h.1 st _ (.inl rfl) fun w hw => ih w (h.2 w hw) st
    case lst ws => exact same_seq C ws h.1 st _ (.inr rfl) fun w hw => ih w (h.2 w hw) st
    all_goals exact same_flat _ _ (by simp) (by simp [W.fit]; try exact h) st
end M
namespace M
/-! the laws' own helpers as predicates -/
def drawT (m : Int) : PT Int := fun Q _ => 0 < m ∧ m.natAbs.log2 < 9000 ∧ ∀ v, 0 ≤ v → v < m → Q v
theorem t_Ldraw : FT f_Ldraw (rCons rPool (rCons (rV nI) rNil)) (rV nI) (fun a => drawT a.2.1) := by
  rintro st _ ⟨_, m, _⟩ ⟨c, t, rfl, hp⟩ ⟨_, _, rfl, rfl, _, _, rfl, rfl, rfl⟩ Q X ⟨h1, h2, h3⟩
  obtain ⟨v, c1, p1, e1, q1, q2⟩ := draw_ok hp m h1 h2 t
  show OkG _ _ _ _ (f_Ldraw [.loc 0, .int m] (c :: t))
  rw [e1]
  exact ⟨⟨⟨c1, t, rfl, p1⟩, by simp, fun i h0 hi => by cases i with
    | zero => omega
    | succ i => rfl⟩, v, rfl, h3 v q1 q2⟩
/-- some order of the items -/
def shufT {α : Type} (xs : List α) : PT (List α) := fun Q _ => xs.length < 9000 ∧ ∀ ys : List α, ys.Perm xs → Q ys
theorem perm_map_back {α : Type} (f : α → W) {a b : List W} (h : a.Perm b) : ∀ l : List α, b = l.map f → ∃ l' : List α, l'.Perm l ∧ a = l'.map f := by
  induction h with
  | nil => intro l e; exact ⟨l, .refl _, e⟩
  | cons x _ ih =>
    intro l e
    cases l with
    | nil => cases e
    | cons y l =>
      simp only [List.map_cons, List.cons.injEq] at e
      obtain ⟨rfl, e⟩ := e
      obtain ⟨l', p, rfl⟩ := ih l e
      exact ⟨y :: l', .cons y p, rfl⟩
  | swap x y r =>
    intro l e
    cases l with
    | nil => cases e
    | cons z l =>
      cases l with
      | nil => cases e
      | cons z2 l =>
        simp only [List.map_cons, List.cons.injEq] at e
        obtain ⟨rfl, rfl, rfl⟩ := e
        exact ⟨z2 :: z :: l, .swap _ _ _, rfl⟩
  | trans _ _ ih1 ih2 =>
    intro l e
    obtain ⟨l1, p1, e1⟩ := ih2 l e
    obtain ⟨l2, p2, e2⟩ := ih1 l1 e1
    exact ⟨l2, p2.trans p1, e2⟩
/-- the law's own run -/
theorem law_mk {n i : Nat} {rest : IS} {pl : PT Bool} (h : ∀ c Q X, Pool c → SS ⟨[c], (none :: List.replicate (n - 1) none).set (i + 1) (some (.loc 0)), [], []⟩ (GF [c] nB Q X) rest (pl Q X)) (hp : pl (fun b => b = true) (fun _ => False)) :
    ∀ ns : List Int, ns.length ≤ 63 → runDef n .pur (sSeq (sSet (i + 1) (eCall f_Lpool [eVar 0])) rest) [.ro (ns.map W.int)] [] = .ok (.bl true) [] := fun ns hl => by
  obtain ⟨c, hc, e1⟩ := pool_ok ns hl
  simp only [runDef, List.map_cons, List.map_nil, List.length_cons, List.length_nil, List.cons_append, List.nil_append, sSeq, sSet, eCall, eArgs, eVar, List.getElem?_cons_zero, bind_ok, e1]
  have hps : PoolSt [c] := ⟨c, [], rfl, hc⟩
  have := h c _ _ hc hp ((some (.ro (ns.map W.int)) :: List.replicate (n - 1) none).set (i + 1) (some (.loc 0))) [c] ⟨fun j w q => ?_, by simp, .refl hps, hps, by simp, fun n hn => absurd hn (by simp), rfl, fun k n x q => by simp at q⟩
  · revert this
    simp only [List.set_cons_succ]
    have fin0 : ∀ (w : W) (s : Store), Keep [c] s ∧ (∃ b, frz [c].length s w = nB b ∧ b = true) → fin .pur [] w s = .ok (.bl true) [] := fun w s ⟨k, b, e, q⟩ => by
      subst q
      have hw : w = .bl true := by
        unfold frz at e
        cases w with
        | loc m =>
          simp only at e
          split at e
          · cases e
          · split at e <;> cases e
        | bl b => exact e
        | _ => cases e
      subst hw
      simp [fin, OldOk]
    cases rest (some (.ro (ns.map W.int)) :: (List.replicate (n - 1) none).set i (some (.loc 0))) [c] with
    | nx e s => rintro ⟨k, b, e, q⟩; cases b <;> cases e
    | ret w s => exact fun q => fin0 w s q
    | brk e s => exact fun q => q.elim
    | cnt e s => exact fun q => q.elim
    | exc x e s => exact fun q => q.2.1.elim
    | stuck => exact fun q => q.elim
  · cases j with
    | zero => simp at q
    | succ j => simpa using q
/-- what is handed over is what is due -/
def sameT (w1 w2 : W) : PT Bool := fun Q _ => w1 = w2 ∧ w1.fit 7 = true ∧ Q true
theorem t_Lsame : FT (f_Lsame 8) (rCons (rV nW) (rCons (rV nW) rNil)) (rV nB) (fun a => sameT a.1 a.2.1) := by
  rintro st _ ⟨a, b, _⟩ hp ⟨wa, _, rfl, ha, wb, _, rfl, hb, rfl⟩ Q X ⟨h1, h2, h3⟩
  have ha : wa = a := ha
  have hb : wb = b := hb
  have h1 : a = b := h1
  have h2 : a.fit 7 = true := h2
  subst ha; subst hb; subst h1
  show OkG _ _ _ _ (f_Lsame 8 [wa, wa] st)
  rw [same_ok 7 wa h2 st]
  exact okV (en := nB) hp true h3
end M

-- Pred
set_option autoImplicit false
set_option linter.all false
set_option maxRecDepth 100000
set_option Elab.async false
set_option synthInstance.maxHeartbeats 4000000
set_option synthInstance.maxSize 20000
namespace M
def p_Lspread (u0 : Int) : PT Int := fun Q X => ((bindT (bindT (bindT (pureT u0) fun a2 => bindT (pureT ()) fun a3 => pureT (a2, a3)) fun p1 => pureT p1.1) fun a4 => bindT (pureT (2147483647 : Int)) fun a5 => grdT (0 < a5) (a4 % a5)) (fun a6 => ((pureT (1 : Int)) (fun a7 => ((bindT (pureT (4 : Int)) fun a8 => grdT (inR a8) (rangeT 0 a8)) (fun l33 => forT l33 (a6, a7) (fun x11 s9 nx14 bk15 => ((bindT (bindT (bindT (bindT (bindT (bindT (pureT s9.1) fun a17 => bindT (pureT (48271 : Int)) fun a18 => grdT (cMul a17 a18) (a17 * a18)) fun a19 => bindT (pureT (12345 : Int)) fun a20 => pureT (a19 + a20)) fun a21 => bindT (pureT x11) fun a22 => pureT (a21 + a22)) fun a23 => bindT (pureT ()) fun a24 => pureT (a23, a24)) fun p16 => pureT p16.1) fun a25 => bindT (pureT (2147483647 : Int)) fun a26 => grdT (0 < a26) (a25 % a26)) (fun a27 => ((bindT (bindT (pureT s9.2) fun a28 => bindT (pureT (2147483647 : Int)) fun a29 => grdT (cMul a28 a29) (a28 * a29)) fun a30 => bindT (pureT a27) fun a31 => pureT (a30 + a31)) (fun a32 => (nx14 (a27, a32))) X)) X)) (fun s12 => ((pureT s12.2) Q X))) X)) X)) X)
theorem t_Lspread : FT f_Lspread (rCons (rV nI) rNil) (rV nI) (fun a => p_Lspread a.1) := by
  unfold f_Lspread
  refine ft_pur ?_
  rintro st0 _ ⟨u0, _⟩ hp ⟨_, _, rfl, rfl, rfl⟩ Q X
  show SS ⟨st0, [some (nI u0), none, none, none], [], []⟩ _ b_Lspread (p_Lspread u0 Q X)
  unfold b_Lspread p_Lspread
  exact (y_set GF.x (x_op o_mod (x_b b_intI (a_cons' x_var a_nil')) (x_c (en := nI) (2147483647 : Int))) (fun a6 => (y_set GF.x (x_c (en := nI) (1 : Int)) (fun a7 => (y_for (D := fun (v10 : Unit) (s9 : (Int × Int)) => ⟨st0, [some (nI u0), some (nI s9.1), some (nI s9.2), none], [], []⟩) (v0 := ()) (s0 := (a6, a7)) GF.x (i_range1 (x_c (en := nI) (4 : Int))) (tg_n (en := nI)) (wk_mk (.s (.s (.s (.n .nil)))) wk0) (fun _ _ => pn_nil) (fun _ _ => rfl) (fun v10 s9 x11 nx14 bk15 => (y_set (GX.l GF.x) (x_op o_mod (x_b b_intI (a_cons' (x_op o_add (x_op o_add (x_op o_mul x_var (x_c (en := nI) (48271 : Int))) (x_c (en := nI) (12345 : Int))) x_var) a_nil')) (x_c (en := nI) (2147483647 : Int))) (fun a27 => (ss_tail (y_set (GX.l GF.x) (x_op o_add (x_op o_mul x_var (x_c (en := nI) (2147483647 : Int))) x_var) (fun a32 => (y_end (v := ()) (s := (a27, a32)) rfl (wk_mk (.s (.s (.s (.n .nil)))) wk0)))))))) (fun v13 s12 => (y_ret GF.x GF.r x_var)))))))
def p_Lword  : PT Cs := fun Q X => ((pureT (['a', 'b', 'c', 'd', 'e', 'f', 'g', 'h', 'i', 'j', 'k', 'l', 'm', 'n', 'o', 'p', 'q', 'r', 's', 't', 'u', 'v', 'w', 'x', 'y', 'z'] : Cs)) (fun a34 => ((pureT (['a', 'b', 'c', 'd', 'e', 'f', 'g', 'h', 'i', 'j', 'k', 'l', 'm', 'n', 'o', 'p', 'q', 'r', 's', 't', 'u', 'v', 'w', 'x', 'y', 'z', '0', '1', '2', '3', '4', '5', '6', '7', '8', '9', '_'] : Cs)) (fun a35 => ((bindT (pureT a34) fun a41 => bindT (bindT (bindT (pureT ()) fun a39 => bindT (bindT (pureT (26 : Int)) fun a37 => bindT (pureT ()) fun a38 => pureT (a37, a38)) fun a40 => pureT (a39, a40)) fun p36 => drawT p36.2.1) fun a42 => ixST a41 a42) (fun a43 => ((bindT (bindT (bindT (pureT (0 : Int)) fun a58 => bindT (bindT (pureT (0 : Int)) fun a56 => bindT (bindT (pureT (1 : Int)) fun a54 => bindT (bindT (pureT (1 : Int)) fun a52 => bindT (bindT (pureT (2 : Int)) fun a50 => bindT (bindT (pureT (3 : Int)) fun a48 => bindT (bindT (pureT (5 : Int)) fun a46 => bindT (bindT (pureT (12 : Int)) fun a44 => bindT (pureT ([] : List Int)) fun a45 => pureT (a44 :: a45)) fun a47 => pureT (a46 :: a47)) fun a49 => pureT (a48 :: a49)) fun a51 => pureT (a50 :: a51)) fun a53 => pureT (a52 :: a53)) fun a55 => pureT (a54 :: a55)) fun a57 => pureT (a56 :: a57)) fun a59 => pureT (a58 :: a59)) fun a65 => bindT (bindT (bindT (pureT ()) fun a63 => bindT (bindT (pureT (8 : Int)) fun a61 => bindT (pureT ()) fun a62 => pureT (a61, a62)) fun a64 => pureT (a63, a64)) fun p60 => drawT p60.2.1) fun a66 => ixT a65 a66) fun a67 => grdT (inR a67) (rangeT 0 a67)) (fun l118 => forT l118 a43 (fun x70 s68 nx73 bk74 => ((bindT (pureT s68) fun a82 => bindT (bindT (pureT a35) fun a80 => bindT (bindT (bindT (pureT ()) fun a78 => bindT (bindT (pureT (37 : Int)) fun a76 => bindT (pureT ()) fun a77 => pureT (a76, a77)) fun a79 => pureT (a78, a79)) fun p75 => drawT p75.2.1) fun a81 => ixST a80 a81) fun a83 => grdT (a82.length + a83.length ≤ lim) (a82 ++ a83)) (fun a84 => (nx73 a84)) X)) (fun s71 => (jn (fun (s113 : Cs) => ((pureT s113) Q X)) (fun k110 => (bindT (pureT s71) fun a107 => bindT (bindT (pureT (['c', 'e', 'l', 'l'] : Cs)) fun a105 => bindT (bindT (pureT (['p', 'i', 'n'] : Cs)) fun a103 => bindT (bindT (pureT (['m', 'o', 'd', 'u', 'l', 'e'] : Cs)) fun a101 => bindT (bindT (pureT (['g', 'a', 't', 'e'] : Cs)) fun a99 => bindT (bindT (pureT (['p', 'a', 'r', 't'] : Cs)) fun a97 => bindT (bindT (pureT (['r', 'e', 'g'] : Cs)) fun a95 => bindT (bindT (pureT (['e', 'd', 'g', 'e'] : Cs)) fun a93 => bindT (bindT (pureT (['o', 'u', 't'] : Cs)) fun a91 => bindT (bindT (pureT (['s', 'e', 't', 'u', 'p'] : Cs)) fun a89 => bindT (bindT (pureT (['h', 'o', 'l', 'd'] : Cs)) fun a87 => bindT (bindT (pureT (['s', 't', 'a', 'r', 't'] : Cs)) fun a85 => bindT (pureT ([] : List Cs)) fun a86 => pureT (a85 :: a86)) fun a88 => pureT (a87 :: a88)) fun a90 => pureT (a89 :: a90)) fun a92 => pureT (a91 :: a92)) fun a94 => pureT (a93 :: a94)) fun a96 => pureT (a95 :: a96)) fun a98 => pureT (a97 :: a98)) fun a100 => pureT (a99 :: a100)) fun a102 => pureT (a101 :: a102)) fun a104 => pureT (a103 :: a104)) fun a106 => pureT (a105 :: a106)) fun a108 => pureT (decide (a107 ∈ a108))) (fun b109 => if b109 = true then ((bindT (pureT s71) fun a115 => bindT (pureT (['_'] : Cs)) fun a116 => grdT (a115.length + a116.length ≤ lim) (a115 ++ a116)) (fun a117 => (k110 a117)) X) else (k110 s71)) X)))) X)) X)) X)) X)
theorem t_Lword : FT f_Lword (rCons rPool rNil) (rV nC) (fun a => p_Lword ) := by
  unfold f_Lword
  refine ft_pur ?_
  rintro st0 _ ⟨u0, _⟩ hp ⟨_, _, rfl, rfl, rfl⟩ Q X
  show SS ⟨st0, [some (.loc 0), none, none, none, none], [], []⟩ _ b_Lword (p_Lword  Q X)
  unfold b_Lword p_Lword
  exact (y_set GF.x (x_c (en := nC) (['a', 'b', 'c', 'd', 'e', 'f', 'g', 'h', 'i', 'j', 'k', 'l', 'm', 'n', 'o', 'p', 'q', 'r', 's', 't', 'u', 'v', 'w', 'x', 'y', 'z'] : Cs)) (fun a34 => (y_set GF.x (x_c (en := nC) (['a', 'b', 'c', 'd', 'e', 'f', 'g', 'h', 'i', 'j', 'k', 'l', 'm', 'n', 'o', 'p', 'q', 'r', 's', 't', 'u', 'v', 'w', 'x', 'y', 'z', '0', '1', '2', '3', '4', '5', '6', '7', '8', '9', '_'] : Cs)) (fun a35 => (y_set GF.x (x_op o_ixS x_var (x_call t_Ldraw (a_cons' x_pool (a_cons' (x_c (en := nI) (26 : Int)) a_nil')))) (fun a43 => (y_for (D := fun (v69 : Unit) (s68 : Cs) => ⟨st0, [some (.loc 0), some (nC a34), some (nC a35), some (nC s68), none], [], []⟩) (v0 := ()) (s0 := a43) GF.x (i_range1 (x_op o_ix (v2s (x_lst (li_C (x_c (en := nI) (0 : Int)) (li_C (x_c (en := nI) (0 : Int)) (li_C (x_c (en := nI) (1 : Int)) (li_C (x_c (en := nI) (1 : Int)) (li_C (x_c (en := nI) (2 : Int)) (li_C (x_c (en := nI) (3 : Int)) (li_C (x_c (en := nI) (5 : Int)) (li_C (x_c (en := nI) (12 : Int)) (li_0 (en := nI)))))))))))) (x_call t_Ldraw (a_cons' x_pool (a_cons' (x_c (en := nI) (8 : Int)) a_nil'))))) (tg_n (en := nI)) (wk_mk (.s (.s (.s (.s (.n .nil))))) wk0) (fun _ _ => pn_nil) (fun _ _ => rfl) (fun v69 s68 x70 nx73 bk74 => (ss_tail (y_set (GX.l GF.x) (x_op o_addS x_var (x_op o_ixS x_var (x_call t_Ldraw (a_cons' x_pool (a_cons' (x_c (en := nI) (37 : Int)) a_nil'))))) (fun a84 => (y_end (v := ()) (s := a84) rfl (wk_mk (.s (.s (.s (.s (.n .nil))))) wk0)))))) (fun v72 s71 => (y_ifJ (D := fun (v112 : Unit) (s111 : Cs) => ⟨st0, [some (.loc 0), some (nC a34), some (nC a35), some (nC s111), none], [], []⟩) GF.x (ts_val (x_op (o_in (en := nC)) x_var (v2s (x_lst (li_C (x_c (en := nC) (['c', 'e', 'l', 'l'] : Cs)) (li_C (x_c (en := nC) (['p', 'i', 'n'] : Cs)) (li_C (x_c (en := nC) (['m', 'o', 'd', 'u', 'l', 'e'] : Cs)) (li_C (x_c (en := nC) (['g', 'a', 't', 'e'] : Cs)) (li_C (x_c (en := nC) (['p', 'a', 'r', 't'] : Cs)) (li_C (x_c (en := nC) (['r', 'e', 'g'] : Cs)) (li_C (x_c (en := nC) (['e', 'd', 'g', 'e'] : Cs)) (li_C (x_c (en := nC) (['o', 'u', 't'] : Cs)) (li_C (x_c (en := nC) (['s', 'e', 't', 'u', 'p'] : Cs)) (li_C (x_c (en := nC) (['h', 'o', 'l', 'd'] : Cs)) (li_C (x_c (en := nC) (['s', 't', 'a', 'r', 't'] : Cs)) (li_0 (en := nC))))))))))))))))) (fun k110 => (ss_tail (y_set (GX.j GF.x) (x_op o_addS x_var (x_c (en := nC) (['_'] : Cs))) (fun a117 => (y_end (v := ()) (s := a117) rfl (wk_mk (.s (.s (.s (.s (.n .nil))))) wk0)))))) (fun k110 => (y_end (v := ()) (s := s71) rfl (wk_mk (.s (.s (.s (.s (.n .nil))))) wk0))) (fun v114 s113 => (y_ret GF.x GF.r x_var)))))))))))
def p_Lnumber  : PT Int := fun Q X => ((bindT (bindT (pureT (0 : Int)) fun a144 => bindT (bindT (bindT (bindT (pureT ()) fun a122 => bindT (bindT (pureT (9 : Int)) fun a120 => bindT (pureT ()) fun a121 => pureT (a120, a121)) fun a123 => pureT (a122, a123)) fun p119 => drawT p119.2.1) fun a142 => bindT (bindT (bindT (bindT (pureT ()) fun a129 => bindT (bindT (bindT (pureT (10 : Int)) fun a125 => bindT (pureT (9 : Int)) fun a126 => grdT (cPow a125 a126) (a125 ^ (a126).toNat)) fun a127 => bindT (pureT ()) fun a128 => pureT (a127, a128)) fun a130 => pureT (a129, a130)) fun p124 => drawT p124.2.1) fun a140 => bindT (bindT (bindT (bindT (pureT ()) fun a136 => bindT (bindT (bindT (pureT (10 : Int)) fun a132 => bindT (pureT (60 : Int)) fun a133 => grdT (cPow a132 a133) (a132 ^ (a133).toNat)) fun a134 => bindT (pureT ()) fun a135 => pureT (a134, a135)) fun a137 => pureT (a136, a137)) fun p131 => drawT p131.2.1) fun a138 => bindT (pureT ([] : List Int)) fun a139 => pureT (a138 :: a139)) fun a141 => pureT (a140 :: a141)) fun a143 => pureT (a142 :: a143)) fun a145 => pureT (a144 :: a145)) fun a151 => bindT (bindT (bindT (pureT ()) fun a149 => bindT (bindT (pureT (4 : Int)) fun a147 => bindT (pureT ()) fun a148 => pureT (a147, a148)) fun a150 => pureT (a149, a150)) fun p146 => drawT p146.2.1) fun a152 => ixT a151 a152) (fun a153 => ((bindT (bindT (pureT a153) fun a157 => bindT (bindT (bindT (pureT a153) fun a154 => pureT (-a154)) fun a155 => bindT (pureT ([] : List Int)) fun a156 => pureT (a155 :: a156)) fun a158 => pureT (a157 :: a158)) fun a164 => bindT (bindT (bindT (pureT ()) fun a162 => bindT (bindT (pureT (2 : Int)) fun a160 => bindT (pureT ()) fun a161 => pureT (a160, a161)) fun a163 => pureT (a162, a163)) fun p159 => drawT p159.2.1) fun a165 => ixT a164 a165) Q X)) X)
theorem t_Lnumber : FT f_Lnumber (rCons rPool rNil) (rV nI) (fun a => p_Lnumber ) := by
  unfold f_Lnumber
  refine ft_pur ?_
  rintro st0 _ ⟨u0, _⟩ hp ⟨_, _, rfl, rfl, rfl⟩ Q X
  show SS ⟨st0, [some (.loc 0), none], [], []⟩ _ b_Lnumber (p_Lnumber  Q X)
  unfold b_Lnumber p_Lnumber
  exact (y_set GF.x (x_op o_ix (v2s (x_lst (li_C (x_c (en := nI) (0 : Int)) (li_C (x_call t_Ldraw (a_cons' x_pool (a_cons' (x_c (en := nI) (9 : Int)) a_nil'))) (li_C (x_call t_Ldraw (a_cons' x_pool (a_cons' (x_op o_pow (x_c (en := nI) (10 : Int)) (x_c (en := nI) (9 : Int))) a_nil'))) (li_C (x_call t_Ldraw (a_cons' x_pool (a_cons' (x_op o_pow (x_c (en := nI) (10 : Int)) (x_c (en := nI) (60 : Int))) a_nil'))) (li_0 (en := nI)))))))) (x_call t_Ldraw (a_cons' x_pool (a_cons' (x_c (en := nI) (4 : Int)) a_nil')))) (fun a153 => (y_ret GF.x GF.r (x_op o_ix (v2s (x_lst (li_C x_var (li_C (x_un u_neg x_var) (li_0 (en := nI)))))) (x_call t_Ldraw (a_cons' x_pool (a_cons' (x_c (en := nI) (2 : Int)) a_nil')))))))
def p_Lbits (u0 : Int) (u1 : Int) : PT (List Bool) := fun Q X => ((pureT ([] : List Bool)) (fun a166 => ((bindT (pureT u1) fun a168 => grdT (inR a168) (rangeT 0 a168)) (fun l191 => forT l191 (u0, a166) (fun x171 s169 nx174 bk175 => ((bindT (bindT (bindT (bindT (pureT s169.1) fun a177 => bindT (pureT ()) fun a178 => pureT (a177, a178)) fun p176 => pureT p176.1) fun a179 => bindT (pureT (2 : Int)) fun a180 => grdT (0 < a180) (a179 % a180)) fun a181 => bindT (pureT (1 : Int)) fun a182 => pureT (decide (a181 = a182))) (fun a183 => appT s169.2 a183 (fun ys184 => ((bindT (pureT s169.1) fun a185 => bindT (pureT (2 : Int)) fun a186 => grdT (0 < a186 ∧ (a186).natAbs.log2 < 9000) (a185 / a186)) (fun a187 => (nx174 (a187, ys184))) X))) X)) (fun s172 => ((bindT (bindT (pureT s172.2) fun a189 => bindT (pureT ()) fun a190 => pureT (a189, a190)) fun p188 => pureT p188.1) Q X))) X)) X)
theorem t_Lbits : FT f_Lbits (rCons (rV nI) (rCons (rV nI) rNil)) (rV (nV nB)) (fun a => p_Lbits a.1 a.2.1) := by
  unfold f_Lbits
  refine ft_pur ?_
  rintro st0 _ ⟨u0, u1, _⟩ hp ⟨_, _, rfl, rfl, _, _, rfl, rfl, rfl⟩ Q X
  show SS ⟨st0, [some (nI u0), some (nI u1), none, none], [], []⟩ _ b_Lbits (p_Lbits u0 u1 Q X)
  unfold b_Lbits p_Lbits
  exact (y_setN GF.x (li_0 (en := nB)) (fun a166 n167 => (y_for (D := fun (v170 : Unit) (s169 : (Int × (List Bool))) => ⟨st0, [some (nI s169.1), some (nI u1), some (.loc n167), none], [n167], [.lst (List.map nB s169.2)]⟩) (v0 := ()) (s0 := (u0, a166)) GF.x (i_range1 x_var) (tg_n (en := nI)) (wk_mk (.s (.s (.s (.n .nil)))) (wkj 0 wk0)) (fun _ _ => pn_nil) (fun _ _ => rfl) (fun v170 s169 x171 nx174 bk175 => (y_app (xs := s169.2) 0 (GX.l GF.x) (x_op (o_eq (en := nI)) (x_op o_mod (x_b b_intI (a_cons' x_var a_nil')) (x_c (en := nI) (2 : Int))) (x_c (en := nI) (1 : Int))) (fun ys184 => (ss_tail (y_set (GX.l GF.x) (x_op o_div x_var (x_c (en := nI) (2 : Int))) (fun a187 => (y_end (v := ()) (s := (a187, ys184)) rfl (wk_mk (.s (.s (.s (.n .nil)))) (wkj 0 wk0))))))))) (fun v173 s172 => (y_ret GF.x GF.r (x_b b_tup (a_cons' (l2s (x_lmut 0)) a_nil')))))))
def p_Lmargin  : PT (Option Int) := fun Q X => ((bindT (bindT (pureT (none : (Option Int))) fun a204 => bindT (bindT (bindT (bindT (bindT (pureT ()) fun a193 => bindT (pureT ()) fun a194 => pureT (a193, a194)) fun p192 => p_Lnumber ) fun a195 => pureT (some a195)) fun a202 => bindT (bindT (bindT (bindT (bindT (pureT ()) fun a197 => bindT (pureT ()) fun a198 => pureT (a197, a198)) fun p196 => p_Lnumber ) fun a199 => pureT (some a199)) fun a200 => bindT (pureT ([] : List (Option Int))) fun a201 => pureT (a200 :: a201)) fun a203 => pureT (a202 :: a203)) fun a205 => pureT (a204 :: a205)) fun a211 => bindT (bindT (bindT (pureT ()) fun a209 => bindT (bindT (pureT (3 : Int)) fun a207 => bindT (pureT ()) fun a208 => pureT (a207, a208)) fun a210 => pureT (a209, a210)) fun p206 => drawT p206.2.1) fun a212 => ixT a211 a212) Q X)
theorem t_Lmargin : FT f_Lmargin (rCons rPool rNil) (rV (nO nI)) (fun a => p_Lmargin ) := by
  unfold f_Lmargin
  refine ft_pur ?_
  rintro st0 _ ⟨u0, _⟩ hp ⟨_, _, rfl, rfl, rfl⟩ Q X
  show SS ⟨st0, [some (.loc 0)], [], []⟩ _ b_Lmargin (p_Lmargin  Q X)
  unfold b_Lmargin p_Lmargin
  exact (y_ret GF.x GF.r (x_op o_ix (v2s (x_lst (li_C (x_non (en := nI)) (li_C (c_some (x_call t_Lnumber (a_cons' x_pool a_nil'))) (li_C (c_some (x_call t_Lnumber (a_cons' x_pool a_nil'))) (li_0 (en := (nO nI)))))))) (x_call t_Ldraw (a_cons' x_pool (a_cons' (x_c (en := nI) (3 : Int)) a_nil')))))
def p_Lreport  : PT (Cs × Int × (List (Cs × (Option Int) × (Option Int) × (Option (Int × (List Bool)))))) := fun Q X => ((pureT ([] : List (Cs × (Option Int) × (Option Int) × (Option (Int × (List Bool)))))) (fun a213 => ((bindT (bindT (pureT ()) fun a218 => bindT (bindT (pureT (10 : Int)) fun a216 => bindT (pureT ()) fun a217 => pureT (a216, a217)) fun a219 => pureT (a218, a219)) fun p215 => drawT p215.2.1) (fun a220 => ((bindT (bindT (bindT (pureT ()) fun a224 => bindT (bindT (pureT (6 : Int)) fun a222 => bindT (pureT ()) fun a223 => pureT (a222, a223)) fun a225 => pureT (a224, a225)) fun p221 => drawT p221.2.1) fun a226 => grdT (inR a226) (rangeT 0 a226)) (fun l329 => forT l329 a213 (fun x229 s227 nx232 bk233 => ((bindT (pureT (['/'] : Cs)) fun a247 => bindT (bindT (bindT (bindT (pureT (1 : Int)) fun a239 => bindT (bindT (bindT (pureT ()) fun a237 => bindT (bindT (pureT (3 : Int)) fun a235 => bindT (pureT ()) fun a236 => pureT (a235, a236)) fun a238 => pureT (a237, a238)) fun p234 => drawT p234.2.1) fun a240 => pureT (a239 + a240)) fun a241 => grdT (inR a241) (rangeT 0 a241)) fun l242 => lcT l242 (fun x243 => (pureT true)) (fun x243 => (bindT (bindT (pureT ()) fun a245 => bindT (pureT ()) fun a246 => pureT (a245, a246)) fun p244 => p_Lword ))) fun a248 => grdT ((List.map List.length a248).sum + a248.length * a247.length ≤ lim) (joinT a247 a248)) (fun a249 => (whT a249 (fun s250 nx254 bk255 => (bindT (pureT s250) fun a259 => bindT (bindT (pureT s227) fun l256 => lcT l256 (fun x257 => (pureT true)) (fun x257 => (bindT (pureT x257) fun a258 => pureT a258.1))) fun a260 => pureT (decide (a259 ∈ a260))) (fun b309 => if b309 = true then ((bindT (pureT s250) fun a261 => bindT (pureT (['_'] : Cs)) fun a262 => grdT (a261.length + a262.length ≤ lim) (a261 ++ a262)) (fun a263 => (nx254 a263)) X) else bk255 s250) X) (fun s252 => ((pureT (none : (Option (Int × (List Bool))))) (fun a264 => (jn (fun (s276 : (Option (Int × (List Bool)))) => ((bindT (pureT s252) fun a305 => bindT (bindT (bindT (bindT (pureT ()) fun a296 => bindT (pureT ()) fun a297 => pureT (a296, a297)) fun p295 => p_Lmargin ) fun a303 => bindT (bindT (bindT (bindT (pureT ()) fun a299 => bindT (pureT ()) fun a300 => pureT (a299, a300)) fun p298 => p_Lmargin ) fun a301 => bindT (pureT s276) fun a302 => pureT (a301, a302)) fun a304 => pureT (a303, a304)) fun a306 => pureT (a305, a306)) (fun a307 => appT s227 a307 (fun ys308 => (nx232 ys308))) X)) (fun k273 => (bindT (bindT (bindT (pureT ()) fun a268 => bindT (bindT (pureT (2 : Int)) fun a266 => bindT (pureT ()) fun a267 => pureT (a266, a267)) fun a269 => pureT (a268, a269)) fun p265 => drawT p265.2.1) fun a270 => bindT (pureT (0 : Int)) fun a271 => pureT (decide (a270 = a271))) (fun b272 => if b272 = true then ((bindT (bindT (bindT (bindT (pureT ()) fun a279 => bindT (pureT ()) fun a280 => pureT (a279, a280)) fun p278 => p_Lnumber ) fun a291 => bindT (bindT (bindT (bindT (bindT (pureT ()) fun a285 => bindT (bindT (pureT (512 : Int)) fun a283 => bindT (pureT ()) fun a284 => pureT (a283, a284)) fun a286 => pureT (a285, a286)) fun p282 => drawT p282.2.1) fun a289 => bindT (bindT (pureT a220) fun a287 => bindT (pureT ()) fun a288 => pureT (a287, a288)) fun a290 => pureT (a289, a290)) fun p281 => p_Lbits p281.1 p281.2.1) fun a292 => pureT (a291, a292)) fun a293 => pureT (some a293)) (fun a294 => (k273 a294)) X) else (k273 a264)) X))) X)))) X)) (fun s230 => ((bindT (bindT (bindT (pureT ()) fun a311 => bindT (pureT ()) fun a312 => pureT (a311, a312)) fun p310 => p_Lword ) fun a327 => bindT (bindT (bindT (pureT (1 : Int)) fun a320 => bindT (bindT (bindT (pureT ()) fun a318 => bindT (bindT (bindT (pureT (10 : Int)) fun a314 => bindT (pureT (12 : Int)) fun a315 => grdT (cPow a314 a315) (a314 ^ (a315).toNat)) fun a316 => bindT (pureT ()) fun a317 => pureT (a316, a317)) fun a319 => pureT (a318, a319)) fun p313 => drawT p313.2.1) fun a321 => pureT (a320 + a321)) fun a325 => bindT (bindT (bindT (pureT s230) fun a323 => bindT (pureT ()) fun a324 => pureT (a323, a324)) fun p322 => pureT p322.1) fun a326 => pureT (a325, a326)) fun a328 => pureT (a327, a328)) Q X))) X)) X)) X)
theorem t_Lreport : FT f_Lreport (rCons rPool rNil) (rV (nT (tC nC (tC nI (t1 (nV (nT (tC nC (tC (nO nI) (tC (nO nI) (t1 (nO (nT (tC nI (t1 (nV nB)))))))))))))))) (fun a => p_Lreport ) := by
  unfold f_Lreport
  refine ft_pur ?_
  rintro st0 _ ⟨u0, _⟩ hp ⟨_, _, rfl, rfl, rfl⟩ Q X
  show SS ⟨st0, [some (.loc 0), none, none, none, none, none, none, none], [], []⟩ _ b_Lreport (p_Lreport  Q X)
  unfold b_Lreport p_Lreport
  exact (y_setN GF.x (li_0 (en := (nT (tC nC (tC (nO nI) (tC (nO nI) (t1 (nO (nT (tC nI (t1 (nV nB)))))))))))) (fun a213 n214 => (y_set GF.x (x_call t_Ldraw (a_cons' x_pool (a_cons' (x_c (en := nI) (10 : Int)) a_nil'))) (fun a220 => (y_for (D := fun (v228 : Unit) (s227 : (List (Cs × (Option Int) × (Option Int) × (Option (Int × (List Bool)))))) => ⟨st0, [some (.loc 0), some (.loc n214), some (nI a220), none, none, none, none, none], [n214], [.lst (List.map (nT (tC nC (tC (nO nI) (tC (nO nI) (t1 (nO (nT (tC nI (t1 (nV nB)))))))))) s227)]⟩) (v0 := ()) (s0 := a213) GF.x (i_range1 (x_call t_Ldraw (a_cons' x_pool (a_cons' (x_c (en := nI) (6 : Int)) a_nil')))) (tg_n (en := nI)) (wk_mk (.s (.s (.s (.n (.n (.n (.n (.n .nil)))))))) (wkj 0 wk0)) (fun _ _ => pn_nil) (fun _ _ => rfl) (fun v228 s227 x229 nx232 bk233 => (y_set (GX.l GF.x) (x_join (x_c (en := nC) (['/'] : Cs)) (v2s (x_lst (x_lc (i_range1 (x_op o_add (x_c (en := nI) (1 : Int)) (x_call t_Ldraw (a_cons' x_pool (a_cons' (x_c (en := nI) (3 : Int)) a_nil'))))) (tg_n (en := nI)) (fun x243 => ts_yes) (fun x243 => (x_call t_Lword (a_cons' x_pool a_nil'))))))) (fun a249 => (y_while (D := fun (v251 : Unit) (s250 : Cs) => ⟨st0, [some (.loc 0), some (.loc n214), some (nI a220), some (nI x229), some (nC s250), none, none, none], [n214], [.lst (List.map (nT (tC nC (tC (nO nI) (tC (nO nI) (t1 (nO (nT (tC nI (t1 (nV nB)))))))))) s227)]⟩) (v0 := ()) (s0 := a249) (fun _ _ => (GX.l GF.x)) (wk_mk (.s (.s (.s (.s (.s (.n (.n (.n .nil)))))))) (wkj 0 wk0)) (fun _ _ => rfl) (fun v251 s250 => (ts_val (x_op (o_in (en := nC)) x_var (v2s (x_lst (x_lc (i_seq (p_mut 0)) (tg_n (en := (nT (tC nC (tC (nO nI) (tC (nO nI) (t1 (nO (nT (tC nI (t1 (nV nB)))))))))))) (fun x257 => ts_yes) (fun x257 => (o_ixT (k := 0) ix_0 x_var)))))))) (fun v251 s250 nx254 bk255 => (ss_tail (y_set (GX.l (GX.l GF.x)) (x_op o_addS x_var (x_c (en := nC) (['_'] : Cs))) (fun a263 => (y_end (v := ()) (s := a263) rfl (wk_mk (.s (.s (.s (.s (.s (.n (.n (.n .nil)))))))) (wkj 0 wk0))))))) (fun v253 s252 => (y_set (GX.l GF.x) (x_non (en := (nT (tC nI (t1 (nV nB)))))) (fun a264 => (y_ifJ (D := fun (v275 : Unit) (s274 : (Option (Int × (List Bool)))) => ⟨st0, [some (.loc 0), some (.loc n214), some (nI a220), some (nI x229), some (nC s252), some ((nO (nT (tC nI (t1 (nV nB))))) s274), none, none], [n214], [.lst (List.map (nT (tC nC (tC (nO nI) (tC (nO nI) (t1 (nO (nT (tC nI (t1 (nV nB)))))))))) s227)]⟩) (GX.l GF.x) (ts_val (x_op (o_eq (en := nI)) (x_call t_Ldraw (a_cons' x_pool (a_cons' (x_c (en := nI) (2 : Int)) a_nil'))) (x_c (en := nI) (0 : Int)))) (fun k273 => (ss_tail (y_set (GX.j (GX.l GF.x)) (c_some (x_tup (tt_C (x_call t_Lnumber (a_cons' x_pool a_nil')) (tt_1 (x_call t_Lbits (a_cons' (x_call t_Ldraw (a_cons' x_pool (a_cons' (x_c (en := nI) (512 : Int)) a_nil'))) (a_cons' x_var a_nil'))))))) (fun a294 => (y_end (v := ()) (s := a294) rfl (wk_mk (.s (.s (.s (.s (.s (.s (.n (.n .nil)))))))) (wkj 0 wk0))))))) (fun k273 => (y_end (v := ()) (s := a264) rfl (wk_mk (.s (.s (.s (.s (.s (.s (.n (.n .nil)))))))) (wkj 0 wk0)))) (fun v277 s276 => (ss_tail (y_app (xs := s227) 0 (GX.l GF.x) (x_tup (tt_C x_var (tt_C (x_call t_Lmargin (a_cons' x_pool a_nil')) (tt_C (x_call t_Lmargin (a_cons' x_pool a_nil')) (tt_1 x_var))))) (fun ys308 => (y_end (v := ()) (s := ys308) rfl (wk_mk (.s (.s (.s (.n (.n (.n (.n (.n .nil)))))))) (wkj 0 wk0))))))))))))))) (fun v231 s230 => (y_ret GF.x GF.r (x_tup (tt_C (x_call t_Lword (a_cons' x_pool a_nil')) (tt_C (x_op o_add (x_c (en := nI) (1 : Int)) (x_call t_Ldraw (a_cons' x_pool (a_cons' (x_op o_pow (x_c (en := nI) (10 : Int)) (x_c (en := nI) (12 : Int))) a_nil')))) (tt_1 (x_b b_tup (a_cons' (l2s (x_lmut 0)) a_nil')))))))))))))
def p_Lshown (u0 : (Option Int)) : PT Cs := fun Q X => ((bindT (pureT u0) fun a330 => bindT (pureT ()) fun a331 => pureT (a330.isNone)) (fun b332 => if b332 = true then ((pureT (['n', 'o', 'n', 'e'] : Cs)) Q X) else ((bindT (bindT (bindT (pureT u0) fun a334 => optT a334) fun a335 => bindT (pureT ()) fun a336 => pureT (a335, a336)) fun p333 => grdT (p333.1.natAbs.log2 < 1920) (strI p333.1)) Q X)) X)
theorem t_Lshown : FT f_Lshown (rCons (rV (nO nI)) rNil) (rV nC) (fun a => p_Lshown a.1) := by
  unfold f_Lshown
  refine ft_pur ?_
  rintro st0 _ ⟨u0, _⟩ hp ⟨_, _, rfl, rfl, rfl⟩ Q X
  show SS ⟨st0, [some ((nO nI) u0)], [], []⟩ _ b_Lshown (p_Lshown u0 Q X)
  unfold b_Lshown p_Lshown
  exact (y_ifA GF.x (ts_val (x_op (o_isN (en := nI)) x_var (x_c (en := nU) ()))) (y_ret (GX.z GF.x) (GR.z GF.r) (x_c (en := nC) (['n', 'o', 'n', 'e'] : Cs))) (y_skip (y_ret GF.x GF.r (x_b b_strI (a_cons' (c_get x_var) a_nil')))))
def p_Ltext (u0 : (Cs × Int × (List (Cs × (Option Int) × (Option Int) × (Option (Int × (List Bool))))))) : PT Cs := fun Q X => ((bindT (bindT (bindT (bindT (pureT (['m', 'o', 'd', 'u', 'l', 'e', ' '] : Cs)) fun a338 => bindT (bindT (pureT u0) fun a337 => pureT a337.1) fun a339 => grdT (a338.length + a339.length ≤ lim) (a338 ++ a339)) fun a340 => bindT (pureT ([' ', 'p', 'e', 'r', 'i', 'o', 'd', ' '] : Cs)) fun a341 => grdT (a340.length + a341.length ≤ lim) (a340 ++ a341)) fun a346 => bindT (bindT (bindT (bindT (pureT u0) fun a343 => pureT a343.2.1) fun a344 => bindT (pureT ()) fun a345 => pureT (a344, a345)) fun p342 => grdT (p342.1.natAbs.log2 < 1920) (strI p342.1)) fun a347 => grdT (a346.length + a347.length ≤ lim) (a346 ++ a347)) fun a348 => bindT (pureT ([Char.ofNat 10] : Cs)) fun a349 => grdT (a348.length + a349.length ≤ lim) (a348 ++ a349)) (fun a350 => ((bindT (pureT u0) fun a351 => pureT a351.2.2) (fun l451 => forT l451 a350 (fun x354 s352 nx357 bk358 => ((bindT (bindT (bindT (bindT (bindT (bindT (pureT s352) fun a359 => bindT (pureT (['r', 'e', 'g', ' '] : Cs)) fun a360 => grdT (a359.length + a360.length ≤ lim) (a359 ++ a360)) fun a362 => bindT (bindT (pureT x354) fun a361 => pureT a361.1) fun a363 => grdT (a362.length + a363.length ≤ lim) (a362 ++ a363)) fun a364 => bindT (pureT ([' ', 's', 'e', 't', 'u', 'p', ' '] : Cs)) fun a365 => grdT (a364.length + a365.length ≤ lim) (a364 ++ a365)) fun a370 => bindT (bindT (bindT (bindT (pureT x354) fun a367 => pureT a367.2.1) fun a368 => bindT (pureT ()) fun a369 => pureT (a368, a369)) fun p366 => p_Lshown p366.1) fun a371 => grdT (a370.length + a371.length ≤ lim) (a370 ++ a371)) fun a372 => bindT (pureT ([' ', 'h', 'o', 'l', 'd', ' '] : Cs)) fun a373 => grdT (a372.length + a373.length ≤ lim) (a372 ++ a373)) fun a378 => bindT (bindT (bindT (bindT (pureT x354) fun a375 => pureT a375.2.2.1) fun a376 => bindT (pureT ()) fun a377 => pureT (a376, a377)) fun p374 => p_Lshown p374.1) fun a379 => grdT (a378.length + a379.length ≤ lim) (a378 ++ a379)) (fun a380 => ((bindT (bindT (pureT x354) fun a381 => pureT a381.2.2.2) fun a382 => bindT (pureT ()) fun a383 => pureT (a382.isNone)) (fun b430 => if b430 = true then ((bindT (pureT a380) fun a384 => bindT (pureT ([' ', 'o', 'k', Char.ofNat 10] : Cs)) fun a385 => grdT (a384.length + a385.length ≤ lim) (a384 ++ a385)) (fun a386 => (nx357 a386)) X) else ((bindT (pureT ([] : Cs)) fun a401 => bindT (bindT (bindT (bindT (bindT (pureT x354) fun a387 => pureT a387.2.2.2) fun a388 => optT a388) fun a389 => pureT a389.2) fun l390 => lcT l390 (fun x391 => (pureT true)) (fun x391 => (bindT (bindT (pureT (['0'] : Cs)) fun a394 => bindT (bindT (pureT (['1'] : Cs)) fun a392 => bindT (pureT ([] : List Cs)) fun a393 => pureT (a392 :: a393)) fun a395 => pureT (a394 :: a395)) fun a399 => bindT (bindT (bindT (pureT x391) fun a397 => bindT (pureT ()) fun a398 => pureT (a397, a398)) fun p396 => pureT (if p396.1 = true then 1 else 0)) fun a400 => ixT a399 a400))) fun a402 => grdT ((List.map List.length a402).sum + a402.length * a401.length ≤ lim) (joinT a401 a402)) (fun a403 => (jn (fun (s410 : Cs) => ((bindT (bindT (bindT (bindT (bindT (pureT a380) fun a413 => bindT (pureT ([' ', 'l', 'o', 'o', 's', 'e', ' ', 'a', 't', ' '] : Cs)) fun a414 => grdT (a413.length + a414.length ≤ lim) (a413 ++ a414)) fun a421 => bindT (bindT (bindT (bindT (bindT (bindT (pureT x354) fun a416 => pureT a416.2.2.2) fun a417 => optT a417) fun a418 => pureT a418.1) fun a419 => bindT (pureT ()) fun a420 => pureT (a419, a420)) fun p415 => grdT (p415.1.natAbs.log2 < 1920) (strI p415.1)) fun a422 => grdT (a421.length + a422.length ≤ lim) (a421 ++ a422)) fun a423 => bindT (pureT ([' ', 'f', 'o', 'r', ' '] : Cs)) fun a424 => grdT (a423.length + a424.length ≤ lim) (a423 ++ a424)) fun a425 => bindT (pureT s410) fun a426 => grdT (a425.length + a426.length ≤ lim) (a425 ++ a426)) fun a427 => bindT (pureT ([Char.ofNat 10] : Cs)) fun a428 => grdT (a427.length + a428.length ≤ lim) (a427 ++ a428)) (fun a429 => (nx357 a429)) X)) (fun k407 => (bindT (pureT a403) fun a404 => bindT (pureT ([] : Cs)) fun a405 => pureT (decide (a404 = a405))) (fun b406 => if b406 = true then ((pureT (['-'] : Cs)) (fun a412 => (k407 a412)) X) else (k407 a403)) X))) X)) X)) X)) (fun s355 => ((bindT (bindT (bindT (pureT u0) fun a431 => pureT a431.2.2) fun l432 => lcT l432 (fun x433 => (bindT (bindT (pureT x433) fun a434 => pureT a434.2.2.2) fun a435 => bindT (pureT ()) fun a436 => pureT (!a435.isNone))) (fun x433 => (pureT x433))) fun a437 => bindT (pureT ([] : List (Cs × (Option Int) × (Option Int) × (Option (Int × (List Bool)))))) fun a438 => pureT (decide (a437 = a438))) (fun a439 => ((bindT (pureT s355) fun a449 => bindT (bindT (bindT (pureT (['n', 'o', 't', ' ', 'c', 'l', 'e', 'a', 'n', Char.ofNat 10] : Cs)) fun a442 => bindT (bindT (pureT (['c', 'l', 'e', 'a', 'n', Char.ofNat 10] : Cs)) fun a440 => bindT (pureT ([] : List Cs)) fun a441 => pureT (a440 :: a441)) fun a443 => pureT (a442 :: a443)) fun a447 => bindT (bindT (bindT (pureT a439) fun a445 => bindT (pureT ()) fun a446 => pureT (a445, a446)) fun p444 => pureT (if p444.1 = true then 1 else 0)) fun a448 => ixT a447 a448) fun a450 => grdT (a449.length + a450.length ≤ lim) (a449 ++ a450)) Q X)) X))) X)) X)
theorem t_Ltext : FT f_Ltext (rCons (rV (nT (tC nC (tC nI (t1 (nV (nT (tC nC (tC (nO nI) (tC (nO nI) (t1 (nO (nT (tC nI (t1 (nV nB)))))))))))))))) rNil) (rV nC) (fun a => p_Ltext a.1) := by
  unfold f_Ltext
  refine ft_pur ?_
  rintro st0 _ ⟨u0, _⟩ hp ⟨_, _, rfl, rfl, rfl⟩ Q X
  show SS ⟨st0, [some ((nT (tC nC (tC nI (t1 (nV (nT (tC nC (tC (nO nI) (tC (nO nI) (t1 (nO (nT (tC nI (t1 (nV nB))))))))))))))) u0), none, none, none, none, none], [], []⟩ _ b_Ltext (p_Ltext u0 Q X)
  unfold b_Ltext p_Ltext
  exact (y_set GF.x (x_op o_addS (x_op o_addS (x_op o_addS (x_op o_addS (x_c (en := nC) (['m', 'o', 'd', 'u', 'l', 'e', ' '] : Cs)) (o_ixT (k := 0) ix_0 x_var)) (x_c (en := nC) ([' ', 'p', 'e', 'r', 'i', 'o', 'd', ' '] : Cs))) (x_b b_strI (a_cons' (o_ixT (k := 1) (ix_S ix_0) x_var) a_nil'))) (x_c (en := nC) ([Char.ofNat 10] : Cs))) (fun a350 => (y_for (D := fun (v353 : Unit) (s352 : Cs) => ⟨st0, [some ((nT (tC nC (tC nI (t1 (nV (nT (tC nC (tC (nO nI) (tC (nO nI) (t1 (nO (nT (tC nI (t1 (nV nB))))))))))))))) u0), some (nC s352), none, none, none, none], [], []⟩) (v0 := ()) (s0 := a350) GF.x (i_seq (p_tup (o_ixT (k := 2) (ix_S (ix_S ix_one)) x_var))) (tg_n (en := (nT (tC nC (tC (nO nI) (tC (nO nI) (t1 (nO (nT (tC nI (t1 (nV nB)))))))))))) (wk_mk (.s (.s (.n (.n (.n (.n .nil)))))) wk0) (fun _ _ => pn_nil) (fun _ _ => rfl) (fun v353 s352 x354 nx357 bk358 => (y_set (GX.l GF.x) (x_op o_addS (x_op o_addS (x_op o_addS (x_op o_addS (x_op o_addS (x_op o_addS x_var (x_c (en := nC) (['r', 'e', 'g', ' '] : Cs))) (o_ixT (k := 0) ix_0 x_var)) (x_c (en := nC) ([' ', 's', 'e', 't', 'u', 'p', ' '] : Cs))) (x_call t_Lshown (a_cons' (o_ixT (k := 1) (ix_S ix_0) x_var) a_nil'))) (x_c (en := nC) ([' ', 'h', 'o', 'l', 'd', ' '] : Cs))) (x_call t_Lshown (a_cons' (o_ixT (k := 2) (ix_S (ix_S ix_0)) x_var) a_nil'))) (fun a380 => (y_ifT (GX.l GF.x) (ts_val (x_op (o_isN (en := (nT (tC nI (t1 (nV nB)))))) (o_ixT (k := 3) (ix_S (ix_S (ix_S ix_one))) x_var) (x_c (en := nU) ()))) (ss_tail (y_set (GX.l GF.x) (x_op o_addS x_var (x_c (en := nC) ([' ', 'o', 'k', Char.ofNat 10] : Cs))) (fun a386 => (y_end (v := ()) (s := a386) rfl (wk_mk (.s (.s (.n (.n (.n (.n .nil)))))) wk0))))) (y_set (GX.l GF.x) (x_join (x_c (en := nC) ([] : Cs)) (v2s (x_lst (x_lc (i_seq (p_tup (o_ixT (k := 1) (ix_S ix_one) (c_get (o_ixT (k := 3) (ix_S (ix_S (ix_S ix_one))) x_var))))) (tg_n (en := nB)) (fun x391 => ts_yes) (fun x391 => (x_op o_ix (v2s (x_lst (li_C (x_c (en := nC) (['0'] : Cs)) (li_C (x_c (en := nC) (['1'] : Cs)) (li_0 (en := nC)))))) (x_b b_intB (a_cons' x_var a_nil')))))))) (fun a403 => (y_ifJ (D := fun (v409 : Unit) (s408 : Cs) => ⟨st0, [some ((nT (tC nC (tC nI (t1 (nV (nT (tC nC (tC (nO nI) (tC (nO nI) (t1 (nO (nT (tC nI (t1 (nV nB))))))))))))))) u0), some (nC a380), some ((nT (tC nC (tC (nO nI) (tC (nO nI) (t1 (nO (nT (tC nI (t1 (nV nB)))))))))) x354), some (nC s408), none, none], [], []⟩) (GX.l GF.x) (ts_val (x_op (o_eq (en := nC)) x_var (x_c (en := nC) ([] : Cs)))) (fun k407 => (ss_tail (y_set (GX.j (GX.l GF.x)) (x_c (en := nC) (['-'] : Cs)) (fun a412 => (y_end (v := ()) (s := a412) rfl (wk_mk (.s (.s (.s (.s (.n (.n .nil)))))) wk0)))))) (fun k407 => (y_end (v := ()) (s := a403) rfl (wk_mk (.s (.s (.s (.s (.n (.n .nil)))))) wk0))) (fun v411 s410 => (ss_tail (y_set (GX.l GF.x) (x_op o_addS (x_op o_addS (x_op o_addS (x_op o_addS (x_op o_addS x_var (x_c (en := nC) ([' ', 'l', 'o', 'o', 's', 'e', ' ', 'a', 't', ' '] : Cs))) (x_b b_strI (a_cons' (o_ixT (k := 0) ix_0 (c_get (o_ixT (k := 3) (ix_S (ix_S (ix_S ix_one))) x_var))) a_nil'))) (x_c (en := nC) ([' ', 'f', 'o', 'r', ' '] : Cs))) x_var) (x_c (en := nC) ([Char.ofNat 10] : Cs))) (fun a429 => (y_end (v := ()) (s := a429) rfl (wk_mk (.s (.s (.n (.n (.n (.n .nil)))))) wk0))))))))))))) (fun v356 s355 => (y_set GF.x (x_op (o_eqL (en := (nT (tC nC (tC (nO nI) (tC (nO nI) (t1 (nO (nT (tC nI (t1 (nV nB)))))))))))) (v2l (x_lst (x_lc (i_seq (p_tup (o_ixT (k := 2) (ix_S (ix_S ix_one)) x_var))) (tg_n (en := (nT (tC nC (tC (nO nI) (tC (nO nI) (t1 (nO (nT (tC nI (t1 (nV nB)))))))))))) (fun x433 => (ts_val (x_op (o_notN (en := (nT (tC nI (t1 (nV nB)))))) (o_ixT (k := 3) (ix_S (ix_S (ix_S ix_one))) x_var) (x_c (en := nU) ())))) (fun x433 => x_var)))) (v2l (x_lst (li_0 (en := (nT (tC nC (tC (nO nI) (tC (nO nI) (t1 (nO (nT (tC nI (t1 (nV nB))))))))))))))) (fun a439 => (y_ret GF.x GF.r (x_op o_addS x_var (x_op o_ix (v2s (x_lst (li_C (x_c (en := nC) (['n', 'o', 't', ' ', 'c', 'l', 'e', 'a', 'n', Char.ofNat 10] : Cs)) (li_C (x_c (en := nC) (['c', 'l', 'e', 'a', 'n', Char.ofNat 10] : Cs)) (li_0 (en := nC)))))) (x_b b_intB (a_cons' x_var a_nil')))))))))))
def p_read_integer (u0 : Cs) : PT Int := fun Q X => ((bindT (pureT u0) fun a452 => bindT (pureT (['-'] : Cs)) fun a453 => remT a452 a453) (fun a454 => ((bindT (bindT (pureT a454) fun a455 => bindT (pureT ([] : Cs)) fun a456 => pureT (decide (a455 = a456))) fun a470 => iteT a470 (pureT true) (bindT (bindT (bindT (bindT (pureT a454) fun a458 => bindT (pureT ()) fun a459 => pureT (a458, a459)) fun p457 => grdT (p457.1.length ≤ lim) (p457.1.length : Int)) fun a460 => bindT (pureT (60 : Int)) fun a461 => pureT (decide (a461 < a460))) fun a469 => iteT a469 (pureT true) (bindT (bindT (bindT (pureT a454) fun a462 => bindT (pureT (0 : Int)) fun a463 => ixST a462 a463) fun a464 => bindT (pureT (['0'] : Cs)) fun a465 => pureT (decide (a464 = a465))) fun a468 => iteT a468 (bindT (pureT u0) fun a466 => bindT (pureT (['0'] : Cs)) fun a467 => pureT (!decide (a466 = a467))) (pureT false)))) (fun b471 => if b471 = true then (pureT () (fun _ => X ⟨"BadReport", none⟩) X) else ((bindT (pureT a454) fun a472 => pureT (List.map (fun x => [x]) a472)) (fun l486 => forT l486 () (fun x475 s473 nx478 bk479 => ((bindT (pureT x475) fun a480 => bindT (pureT (['0', '1', '2', '3', '4', '5', '6', '7', '8', '9'] : Cs)) fun a481 => inG true a480 a481) (fun b482 => if b482 = true then (pureT () (fun _ => X ⟨"BadReport", none⟩) X) else (nx478 ())) X)) (fun s476 => ((bindT (bindT (pureT u0) fun a484 => bindT (pureT ()) fun a485 => pureT (a484, a485)) fun p483 => bindT (grdT (p483.1.length ≤ 640) ()) fun _ => optT (intC p483.1)) Q X))) X)) X)) X)
theorem t_read_integer : FT f_read_integer (rCons (rV nC) rNil) (rV nI) (fun a => p_read_integer a.1) := by
  unfold f_read_integer
  refine ft_pur ?_
  rintro st0 _ ⟨u0, _⟩ hp ⟨_, _, rfl, rfl, rfl⟩ Q X
  show SS ⟨st0, [some (nC u0), none, none], [], []⟩ _ b_read_integer (p_read_integer u0 Q X)
  unfold b_read_integer p_read_integer
  exact (y_set GF.x (x_remP x_var (x_c (en := nC) (['-'] : Cs))) (fun a454 => (y_ifA GF.x (ts_or (ts_val (x_op (o_eq (en := nC)) x_var (x_c (en := nC) ([] : Cs)))) (ts_or (ts_val (x_op o_gt (x_b b_lenS (a_cons' x_var a_nil')) (x_c (en := nI) (60 : Int)))) (ts_and (ts_val (x_op (o_eq (en := nC)) (x_op o_ixS x_var (x_c (en := nI) (0 : Int))) (x_c (en := nC) (['0'] : Cs)))) (ts_val (x_op (o_ne (en := nC)) x_var (x_c (en := nC) (['0'] : Cs))))))) (y_raise (GX.z GF.x) (x_c (en := nU) ())) (y_skip (y_for (D := fun (v474 : Unit) (s473 : Unit) => ⟨st0, [some (nC u0), some (nC a454), none], [], []⟩) (v0 := ()) (s0 := ()) GF.x (i_txt x_var) (tg_n (en := nC)) (wk_mk (.s (.s (.n .nil))) wk0) (fun _ _ => pn_nil) (fun _ _ => rfl) (fun v474 s473 x475 nx478 bk479 => (y_ifT (GX.l GF.x) (ts_val (x_op (o_inG true) x_var (x_c (en := nC) (['0', '1', '2', '3', '4', '5', '6', '7', '8', '9'] : Cs)))) (y_raise (GX.l GF.x) (x_c (en := nU) ())) (y_end (v := ()) (s := ()) rfl (wk_mk (.s (.s (.n .nil))) wk0)))) (fun v477 s476 => (y_ret GF.x GF.r (x_b b_intS (a_cons' x_var a_nil')))))))))
def p_is_word (u0 : Cs) : PT Bool := fun Q X => ((bindT (bindT (pureT u0) fun a487 => bindT (pureT (0 : Int)) fun a488 => ixST a487 a488) fun a489 => bindT (pureT (['a', 'b', 'c', 'd', 'e', 'f', 'g', 'h', 'i', 'j', 'k', 'l', 'm', 'n', 'o', 'p', 'q', 'r', 's', 't', 'u', 'v', 'w', 'x', 'y', 'z'] : Cs)) fun a490 => inG false a489 a490) Q X)
theorem t_is_word : FT f_is_word (rCons (rV nC) rNil) (rV nB) (fun a => p_is_word a.1) := by
  unfold f_is_word
  refine ft_pur ?_
  rintro st0 _ ⟨u0, _⟩ hp ⟨_, _, rfl, rfl, rfl⟩ Q X
  show SS ⟨st0, [some (nC u0)], [], []⟩ _ b_is_word (p_is_word u0 Q X)
  unfold b_is_word p_is_word
  exact (y_ret GF.x GF.r (x_op (o_inG false) (x_op o_ixS x_var (x_c (en := nI) (0 : Int))) (x_c (en := nC) (['a', 'b', 'c', 'd', 'e', 'f', 'g', 'h', 'i', 'j', 'k', 'l', 'm', 'n', 'o', 'p', 'q', 'r', 's', 't', 'u', 'v', 'w', 'x', 'y', 'z'] : Cs))))
def p_is_name (u0 : Cs) : PT Bool := fun Q X => ((bindT (bindT (bindT (pureT u0) fun a492 => bindT (pureT ()) fun a493 => pureT (a492, a493)) fun p491 => p_is_word p491.1) fun a496 => iteT a496 (bindT (pureT u0) fun a494 => bindT (pureT ([['c', 'e', 'l', 'l'], ['p', 'i', 'n'], ['m', 'o', 'd', 'u', 'l', 'e'], ['g', 'a', 't', 'e'], ['p', 'a', 'r', 't'], ['r', 'e', 'g'], ['e', 'd', 'g', 'e'], ['o', 'u', 't'], ['s', 'e', 't', 'u', 'p'], ['h', 'o', 'l', 'd'], ['s', 't', 'a', 'r', 't']] : List Cs)) fun a495 => pureT (!decide (a494 ∈ a495))) (pureT false)) Q X)
theorem t_is_name : FT f_is_name (rCons (rV nC) rNil) (rV nB) (fun a => p_is_name a.1) := by
  unfold f_is_name
  refine ft_pur ?_
  rintro st0 _ ⟨u0, _⟩ hp ⟨_, _, rfl, rfl, rfl⟩ Q X
  show SS ⟨st0, [some (nC u0)], [], []⟩ _ b_is_name (p_is_name u0 Q X)
  unfold b_is_name p_is_name
  exact (y_ret GF.x GF.r (x_and (x_call t_is_word (a_cons' x_var a_nil')) (x_op (o_nin (en := nC)) x_var (t2s (x_c (en := nV nC) ([['c', 'e', 'l', 'l'], ['p', 'i', 'n'], ['m', 'o', 'd', 'u', 'l', 'e'], ['g', 'a', 't', 'e'], ['p', 'a', 'r', 't'], ['r', 'e', 'g'], ['e', 'd', 'g', 'e'], ['o', 'u', 't'], ['s', 'e', 't', 'u', 'p'], ['h', 'o', 'l', 'd'], ['s', 't', 'a', 'r', 't']] : List Cs))))))
def p_read_name (u0 : Cs) : PT Cs := fun Q X => ((bindT (pureT u0) fun a497 => pureT (List.map (fun x => [x]) a497)) (fun l516 => forT l516 () (fun x500 s498 nx503 bk504 => ((bindT (pureT x500) fun a505 => bindT (pureT (['a', 'b', 'c', 'd', 'e', 'f', 'g', 'h', 'i', 'j', 'k', 'l', 'm', 'n', 'o', 'p', 'q', 'r', 's', 't', 'u', 'v', 'w', 'x', 'y', 'z', '0', '1', '2', '3', '4', '5', '6', '7', '8', '9', '_'] : Cs)) fun a506 => inG true a505 a506) (fun b507 => if b507 = true then (pureT () (fun _ => X ⟨"BadReport", none⟩) X) else (nx503 ())) X)) (fun s501 => ((bindT (bindT (pureT u0) fun a508 => bindT (pureT ([] : Cs)) fun a509 => pureT (decide (a508 = a509))) fun a514 => iteT a514 (pureT true) (bindT (bindT (bindT (pureT u0) fun a511 => bindT (pureT ()) fun a512 => pureT (a511, a512)) fun p510 => p_is_name p510.1) fun a513 => pureT (!a513))) (fun b515 => if b515 = true then (pureT () (fun _ => X ⟨"BadReport", none⟩) X) else ((pureT u0) Q X)) X))) X)
theorem t_read_name : FT f_read_name (rCons (rV nC) rNil) (rV nC) (fun a => p_read_name a.1) := by
  unfold f_read_name
  refine ft_pur ?_
  rintro st0 _ ⟨u0, _⟩ hp ⟨_, _, rfl, rfl, rfl⟩ Q X
  show SS ⟨st0, [some (nC u0), none], [], []⟩ _ b_read_name (p_read_name u0 Q X)
  unfold b_read_name p_read_name
  exact (y_for (D := fun (v499 : Unit) (s498 : Unit) => ⟨st0, [some (nC u0), none], [], []⟩) (v0 := ()) (s0 := ()) GF.x (i_txt x_var) (tg_n (en := nC)) (wk_mk (.s (.n .nil)) wk0) (fun _ _ => pn_nil) (fun _ _ => rfl) (fun v499 s498 x500 nx503 bk504 => (y_ifT (GX.l GF.x) (ts_val (x_op (o_inG true) x_var (x_c (en := nC) (['a', 'b', 'c', 'd', 'e', 'f', 'g', 'h', 'i', 'j', 'k', 'l', 'm', 'n', 'o', 'p', 'q', 'r', 's', 't', 'u', 'v', 'w', 'x', 'y', 'z', '0', '1', '2', '3', '4', '5', '6', '7', '8', '9', '_'] : Cs)))) (y_raise (GX.l GF.x) (x_c (en := nU) ())) (y_end (v := ()) (s := ()) rfl (wk_mk (.s (.n .nil)) wk0)))) (fun v502 s501 => (y_ifA GF.x (ts_or (ts_val (x_op (o_eq (en := nC)) x_var (x_c (en := nC) ([] : Cs)))) (ts_not (ts_B (x_call t_is_name (a_cons' x_var a_nil'))))) (y_raise (GX.z GF.x) (x_c (en := nU) ())) (y_skip (y_ret GF.x GF.r x_var)))))
def p_read_margin (u0 : Cs) : PT (Option Int) := fun Q X => ((bindT (bindT (pureT u0) fun a517 => bindT (pureT (['n', 'o', 'n', 'e'] : Cs)) fun a518 => pureT (decide (a517 = a518))) fun a523 => iteT a523 (pureT (none : (Option Int))) (bindT (bindT (bindT (pureT u0) fun a520 => bindT (pureT ()) fun a521 => pureT (a520, a521)) fun p519 => p_read_integer p519.1) fun a522 => pureT (some a522))) Q X)
theorem t_read_margin : FT f_read_margin (rCons (rV nC) rNil) (rV (nO nI)) (fun a => p_read_margin a.1) := by
  unfold f_read_margin
  refine ft_pur ?_
  rintro st0 _ ⟨u0, _⟩ hp ⟨_, _, rfl, rfl, rfl⟩ Q X
  show SS ⟨st0, [some (nC u0)], [], []⟩ _ b_read_margin (p_read_margin u0 Q X)
  unfold b_read_margin p_read_margin
  exact (y_ret GF.x GF.r (x_if (ts_val (x_op (o_eq (en := nC)) x_var (x_c (en := nC) (['n', 'o', 'n', 'e'] : Cs)))) (x_non (en := nI)) (c_some (x_call t_read_integer (a_cons' x_var a_nil')))))
def p_read_bits (u0 : Cs) : PT (List Bool) := fun Q X => ((bindT (pureT u0) fun a524 => bindT (pureT (['-'] : Cs)) fun a525 => pureT (decide (a524 = a525))) (fun b526 => if b526 = true then ((pureT ([] : List Bool)) Q X) else ((bindT (pureT u0) fun a527 => pureT (List.map (fun x => [x]) a527)) (fun l549 => forT l549 () (fun x530 s528 nx533 bk534 => ((bindT (pureT x530) fun a535 => bindT (pureT (['0', '1'] : Cs)) fun a536 => inG true a535 a536) (fun b537 => if b537 = true then (pureT () (fun _ => X ⟨"BadReport", none⟩) X) else (nx533 ())) X)) (fun s531 => ((bindT (pureT u0) fun a538 => bindT (pureT ([] : Cs)) fun a539 => pureT (decide (a538 = a539))) (fun b540 => if b540 = true then (pureT () (fun _ => X ⟨"BadReport", none⟩) X) else ((bindT (bindT (bindT (bindT (pureT u0) fun a542 => pureT (List.map (fun x => [x]) a542)) fun l543 => lcT l543 (fun x544 => (pureT true)) (fun x544 => (bindT (pureT x544) fun a545 => bindT (pureT (['1'] : Cs)) fun a546 => pureT (decide (a545 = a546))))) fun a547 => bindT (pureT ()) fun a548 => pureT (a547, a548)) fun p541 => pureT p541.1) Q X)) X))) X)) X)
theorem t_read_bits : FT f_read_bits (rCons (rV nC) rNil) (rV (nV nB)) (fun a => p_read_bits a.1) := by
  unfold f_read_bits
  refine ft_pur ?_
  rintro st0 _ ⟨u0, _⟩ hp ⟨_, _, rfl, rfl, rfl⟩ Q X
  show SS ⟨st0, [some (nC u0), none], [], []⟩ _ b_read_bits (p_read_bits u0 Q X)
  unfold b_read_bits p_read_bits
  exact (y_ifA GF.x (ts_val (x_op (o_eq (en := nC)) x_var (x_c (en := nC) (['-'] : Cs)))) (y_ret (GX.z GF.x) (GR.z GF.r) (x_vec (li_0 (en := nB)))) (y_skip (y_for (D := fun (v529 : Unit) (s528 : Unit) => ⟨st0, [some (nC u0), none], [], []⟩) (v0 := ()) (s0 := ()) GF.x (i_txt x_var) (tg_n (en := nC)) (wk_mk (.s (.n .nil)) wk0) (fun _ _ => pn_nil) (fun _ _ => rfl) (fun v529 s528 x530 nx533 bk534 => (y_ifT (GX.l GF.x) (ts_val (x_op (o_inG true) x_var (x_c (en := nC) (['0', '1'] : Cs)))) (y_raise (GX.l GF.x) (x_c (en := nU) ())) (y_end (v := ()) (s := ()) rfl (wk_mk (.s (.n .nil)) wk0)))) (fun v532 s531 => (y_ifA GF.x (ts_val (x_op (o_eq (en := nC)) x_var (x_c (en := nC) ([] : Cs)))) (y_raise (GX.z GF.x) (x_c (en := nU) ())) (y_skip (y_ret GF.x GF.r (x_b b_tup (a_cons' (v2s (x_lst (x_lc (i_txt x_var) (tg_n (en := nC)) (fun x544 => ts_yes) (fun x544 => (x_op (o_eq (en := nC)) x_var (x_c (en := nC) (['1'] : Cs))))))) a_nil')))))))))
def p_read_row (u0 : Cs) : PT (Cs × (Option Int) × (Option Int) × (Option (Int × (List Bool)))) := fun Q X => ((bindT (pureT u0) fun a550 => bindT (pureT ([' '] : Cs)) fun a551 => splT a550 a551) (fun a552 => ((bindT (bindT (bindT (bindT (pureT a552) fun a558 => bindT (pureT ()) fun a559 => pureT (a558, a559)) fun p557 => pureT (p557.1.length : Int)) fun a560 => bindT (bindT (pureT (7 : Int)) fun a555 => bindT (bindT (pureT (11 : Int)) fun a553 => bindT (pureT ([] : List Int)) fun a554 => pureT (a553 :: a554)) fun a556 => pureT (a555 :: a556)) fun a561 => pureT (!decide (a560 ∈ a561))) fun a582 => iteT a582 (pureT true) (bindT (bindT (bindT (pureT a552) fun a562 => bindT (pureT (0 : Int)) fun a563 => ixT a562 a563) fun a572 => bindT (bindT (bindT (pureT a552) fun a564 => bindT (pureT (2 : Int)) fun a565 => ixT a564 a565) fun a570 => bindT (bindT (bindT (pureT a552) fun a566 => bindT (pureT (4 : Int)) fun a567 => ixT a566 a567) fun a568 => bindT (pureT ([] : List Cs)) fun a569 => pureT (a568 :: a569)) fun a571 => pureT (a570 :: a571)) fun a573 => pureT (a572 :: a573)) fun a580 => bindT (bindT (pureT (['r', 'e', 'g'] : Cs)) fun a578 => bindT (bindT (pureT (['s', 'e', 't', 'u', 'p'] : Cs)) fun a576 => bindT (bindT (pureT (['h', 'o', 'l', 'd'] : Cs)) fun a574 => bindT (pureT ([] : List Cs)) fun a575 => pureT (a574 :: a575)) fun a577 => pureT (a576 :: a577)) fun a579 => pureT (a578 :: a579)) fun a581 => pureT (!decide (a580 = a581)))) (fun b583 => if b583 = true then (pureT () (fun _ => X ⟨"BadReport", none⟩) X) else ((bindT (bindT (pureT a552) fun a584 => bindT (pureT (1 : Int)) fun a585 => ixT a584 a585) fun a586 => bindT (pureT (['/'] : Cs)) fun a587 => splT a586 a587) (fun l669 => forT l669 () (fun x590 s588 nx593 bk594 => ((bindT (bindT (pureT x590) fun a596 => bindT (pureT ()) fun a597 => pureT (a596, a597)) fun p595 => p_read_name p595.1) (fun a598 => (nx593 ())) X)) (fun s591 => ((pureT (none : (Option (Int × (List Bool))))) (fun a599 => (jn (fun (s609 : (Option (Int × (List Bool)))) => ((bindT (bindT (pureT a552) fun a651 => bindT (pureT (1 : Int)) fun a652 => ixT a651 a652) fun a667 => bindT (bindT (bindT (bindT (bindT (pureT a552) fun a654 => bindT (pureT (3 : Int)) fun a655 => ixT a654 a655) fun a656 => bindT (pureT ()) fun a657 => pureT (a656, a657)) fun p653 => p_read_margin p653.1) fun a665 => bindT (bindT (bindT (bindT (bindT (pureT a552) fun a659 => bindT (pureT (5 : Int)) fun a660 => ixT a659 a660) fun a661 => bindT (pureT ()) fun a662 => pureT (a661, a662)) fun p658 => p_read_margin p658.1) fun a663 => bindT (pureT s609) fun a664 => pureT (a663, a664)) fun a666 => pureT (a665, a666)) fun a668 => pureT (a667, a668)) Q X)) (fun k606 => (bindT (bindT (bindT (pureT a552) fun a601 => bindT (pureT ()) fun a602 => pureT (a601, a602)) fun p600 => pureT (p600.1.length : Int)) fun a603 => bindT (pureT (11 : Int)) fun a604 => pureT (decide (a603 = a604))) (fun b605 => if b605 = true then ((bindT (bindT (bindT (pureT a552) fun a611 => bindT (pureT (6 : Int)) fun a612 => ixT a611 a612) fun a621 => bindT (bindT (bindT (pureT a552) fun a613 => bindT (pureT (7 : Int)) fun a614 => ixT a613 a614) fun a619 => bindT (bindT (bindT (pureT a552) fun a615 => bindT (pureT (9 : Int)) fun a616 => ixT a615 a616) fun a617 => bindT (pureT ([] : List Cs)) fun a618 => pureT (a617 :: a618)) fun a620 => pureT (a619 :: a620)) fun a622 => pureT (a621 :: a622)) fun a629 => bindT (bindT (pureT (['l', 'o', 'o', 's', 'e'] : Cs)) fun a627 => bindT (bindT (pureT (['a', 't'] : Cs)) fun a625 => bindT (bindT (pureT (['f', 'o', 'r'] : Cs)) fun a623 => bindT (pureT ([] : List Cs)) fun a624 => pureT (a623 :: a624)) fun a626 => pureT (a625 :: a626)) fun a628 => pureT (a627 :: a628)) fun a630 => pureT (!decide (a629 = a630))) (fun b631 => if b631 = true then (pureT () (fun _ => X ⟨"BadReport", none⟩) X) else ((bindT (bindT (bindT (bindT (bindT (pureT a552) fun a633 => bindT (pureT (8 : Int)) fun a634 => ixT a633 a634) fun a635 => bindT (pureT ()) fun a636 => pureT (a635, a636)) fun p632 => p_read_integer p632.1) fun a642 => bindT (bindT (bindT (bindT (pureT a552) fun a638 => bindT (pureT (10 : Int)) fun a639 => ixT a638 a639) fun a640 => bindT (pureT ()) fun a641 => pureT (a640, a641)) fun p637 => p_read_bits p637.1) fun a643 => pureT (a642, a643)) fun a644 => pureT (some a644)) (fun a645 => (k606 a645)) X)) X) else ((bindT (bindT (pureT a552) fun a646 => bindT (pureT (6 : Int)) fun a647 => ixT a646 a647) fun a648 => bindT (pureT (['o', 'k'] : Cs)) fun a649 => pureT (!decide (a648 = a649))) (fun b650 => if b650 = true then (pureT () (fun _ => X ⟨"BadReport", none⟩) X) else (k606 a599)) X)) X))) X))) X)) X)) X)
theorem t_read_row : FT f_read_row (rCons (rV nC) rNil) (rV (nT (tC nC (tC (nO nI) (tC (nO nI) (t1 (nO (nT (tC nI (t1 (nV nB))))))))))) (fun a => p_read_row a.1) := by
  unfold f_read_row
  refine ft_pur ?_
  rintro st0 _ ⟨u0, _⟩ hp ⟨_, _, rfl, rfl, rfl⟩ Q X
  show SS ⟨st0, [some (nC u0), none, none, none], [], []⟩ _ b_read_row (p_read_row u0 Q X)
  unfold b_read_row p_read_row
  exact (y_set GF.x (x_lst (l_splitT x_var (x_c (en := nC) ([' '] : Cs)))) (fun a552 => (y_ifA GF.x (ts_or (ts_val (x_op (o_nin (en := nI)) (x_b b_len (a_cons' (v2s x_var) a_nil')) (t2s (x_vec (li_C (x_c (en := nI) (7 : Int)) (li_C (x_c (en := nI) (11 : Int)) (li_0 (en := nI)))))))) (ts_val (x_op (o_neL (en := nC)) (v2l (x_lst (li_C (x_op o_ix (v2s x_var) (x_c (en := nI) (0 : Int))) (li_C (x_op o_ix (v2s x_var) (x_c (en := nI) (2 : Int))) (li_C (x_op o_ix (v2s x_var) (x_c (en := nI) (4 : Int))) (li_0 (en := nC))))))) (v2l (x_lst (li_C (x_c (en := nC) (['r', 'e', 'g'] : Cs)) (li_C (x_c (en := nC) (['s', 'e', 't', 'u', 'p'] : Cs)) (li_C (x_c (en := nC) (['h', 'o', 'l', 'd'] : Cs)) (li_0 (en := nC)))))))))) (y_raise (GX.z GF.x) (x_c (en := nU) ())) (y_skip (y_for (D := fun (v589 : Unit) (s588 : Unit) => ⟨st0, [some (nC u0), some ((nL nC) a552), none, none], [], []⟩) (v0 := ()) (s0 := ()) GF.x (i_seq (p_lst (x_lst (l_splitT (x_op o_ix (v2s x_var) (x_c (en := nI) (1 : Int))) (x_c (en := nC) (['/'] : Cs)))))) (tg_n (en := nC)) (wk_mk (.s (.s (.n (.n .nil)))) wk0) (fun _ _ => pn_nil) (fun _ _ => rfl) (fun v589 s588 x590 nx593 bk594 => (ss_tail (y_drop (GX.l GF.x) (x_call t_read_name (a_cons' x_var a_nil')) (fun a598 => (y_end (v := ()) (s := ()) rfl (wk_mk (.s (.s (.n (.n .nil)))) wk0)))))) (fun v592 s591 => (y_set GF.x (x_non (en := (nT (tC nI (t1 (nV nB)))))) (fun a599 => (y_ifJ (D := fun (v608 : Unit) (s607 : (Option (Int × (List Bool)))) => ⟨st0, [some (nC u0), some ((nL nC) a552), none, some ((nO (nT (tC nI (t1 (nV nB))))) s607)], [], []⟩) GF.x (ts_val (x_op (o_eq (en := nI)) (x_b b_len (a_cons' (v2s x_var) a_nil')) (x_c (en := nI) (11 : Int)))) (fun k606 => (y_ifA (GX.j GF.x) (ts_val (x_op (o_neL (en := nC)) (v2l (x_lst (li_C (x_op o_ix (v2s x_var) (x_c (en := nI) (6 : Int))) (li_C (x_op o_ix (v2s x_var) (x_c (en := nI) (7 : Int))) (li_C (x_op o_ix (v2s x_var) (x_c (en := nI) (9 : Int))) (li_0 (en := nC))))))) (v2l (x_lst (li_C (x_c (en := nC) (['l', 'o', 'o', 's', 'e'] : Cs)) (li_C (x_c (en := nC) (['a', 't'] : Cs)) (li_C (x_c (en := nC) (['f', 'o', 'r'] : Cs)) (li_0 (en := nC))))))))) (y_raise (GX.z (GX.j GF.x)) (x_c (en := nU) ())) (y_skip (ss_tail (y_set (GX.j GF.x) (c_some (x_tup (tt_C (x_call t_read_integer (a_cons' (x_op o_ix (v2s x_var) (x_c (en := nI) (8 : Int))) a_nil')) (tt_1 (x_call t_read_bits (a_cons' (x_op o_ix (v2s x_var) (x_c (en := nI) (10 : Int))) a_nil')))))) (fun a645 => (y_end (v := ()) (s := a645) rfl (wk_mk (.s (.s (.n (.s .nil)))) wk0)))))))) (fun k606 => (y_ifT (GX.j GF.x) (ts_val (x_op (o_ne (en := nC)) (x_op o_ix (v2s x_var) (x_c (en := nI) (6 : Int))) (x_c (en := nC) (['o', 'k'] : Cs)))) (y_raise (GX.j GF.x) (x_c (en := nU) ())) (y_end (v := ()) (s := a599) rfl (wk_mk (.s (.s (.n (.s .nil)))) wk0)))) (fun v610 s609 => (y_ret GF.x GF.r (x_tup (tt_C (x_op o_ix (v2s x_var) (x_c (en := nI) (1 : Int))) (tt_C (x_call t_read_margin (a_cons' (x_op o_ix (v2s x_var) (x_c (en := nI) (3 : Int))) a_nil')) (tt_C (x_call t_read_margin (a_cons' (x_op o_ix (v2s x_var) (x_c (en := nI) (5 : Int))) a_nil')) (tt_1 x_var))))))))))))))))
def p_is_clean_report (u0 : (Cs × Int × (List (Cs × (Option Int) × (Option Int) × (Option (Int × (List Bool))))))) : PT Bool := fun Q X => ((bindT (bindT (bindT (pureT u0) fun a670 => pureT a670.2.2) fun l671 => lcT l671 (fun x672 => (bindT (bindT (pureT x672) fun a673 => pureT a673.2.2.2) fun a674 => bindT (pureT ()) fun a675 => pureT (!a674.isNone))) (fun x672 => (pureT x672))) fun a676 => bindT (pureT ([] : List (Cs × (Option Int) × (Option Int) × (Option (Int × (List Bool)))))) fun a677 => pureT (decide (a676 = a677))) Q X)
theorem t_is_clean_report : FT f_is_clean_report (rCons (rV (nT (tC nC (tC nI (t1 (nV (nT (tC nC (tC (nO nI) (tC (nO nI) (t1 (nO (nT (tC nI (t1 (nV nB)))))))))))))))) rNil) (rV nB) (fun a => p_is_clean_report a.1) := by
  unfold f_is_clean_report
  refine ft_pur ?_
  rintro st0 _ ⟨u0, _⟩ hp ⟨_, _, rfl, rfl, rfl⟩ Q X
  show SS ⟨st0, [some ((nT (tC nC (tC nI (t1 (nV (nT (tC nC (tC (nO nI) (tC (nO nI) (t1 (nO (nT (tC nI (t1 (nV nB))))))))))))))) u0), none], [], []⟩ _ b_is_clean_report (p_is_clean_report u0 Q X)
  unfold b_is_clean_report p_is_clean_report
  exact (y_ret GF.x GF.r (x_op (o_eqL (en := (nT (tC nC (tC (nO nI) (tC (nO nI) (t1 (nO (nT (tC nI (t1 (nV nB)))))))))))) (v2l (x_lst (x_lc (i_seq (p_tup (o_ixT (k := 2) (ix_S (ix_S ix_one)) x_var))) (tg_n (en := (nT (tC nC (tC (nO nI) (tC (nO nI) (t1 (nO (nT (tC nI (t1 (nV nB)))))))))))) (fun x672 => (ts_val (x_op (o_notN (en := (nT (tC nI (t1 (nV nB)))))) (o_ixT (k := 3) (ix_S (ix_S (ix_S ix_one))) x_var) (x_c (en := nU) ())))) (fun x672 => x_var)))) (v2l (x_lst (li_0 (en := (nT (tC nC (tC (nO nI) (tC (nO nI) (t1 (nO (nT (tC nI (t1 (nV nB))))))))))))))))
def p_read_report (u0 : Cs) : PT (Cs × Int × (List (Cs × (Option Int) × (Option Int) × (Option (Int × (List Bool)))))) := fun Q X => ((bindT (pureT u0) fun a678 => bindT (pureT ([Char.ofNat 10] : Cs)) fun a679 => splT a678 a679) (fun a680 => ((bindT (bindT (pureT a680) fun a681 => bindT (pureT (0 : Int)) fun a682 => ixT a681 a682) fun a683 => bindT (pureT ([' '] : Cs)) fun a684 => splT a683 a684) (fun a685 => ((bindT (bindT (bindT (bindT (pureT a680) fun a687 => bindT (pureT ()) fun a688 => pureT (a687, a688)) fun p686 => pureT (p686.1.length : Int)) fun a689 => bindT (pureT (3 : Int)) fun a690 => pureT (decide (a689 < a690))) fun a717 => iteT a717 (pureT true) (bindT (bindT (bindT (pureT a680) fun a692 => bindT (bindT (pureT (1 : Int)) fun a691 => pureT (-a691)) fun a693 => ixT a692 a693) fun a694 => bindT (pureT ([] : Cs)) fun a695 => pureT (!decide (a694 = a695))) fun a716 => iteT a716 (pureT true) (bindT (bindT (bindT (bindT (pureT a685) fun a697 => bindT (pureT ()) fun a698 => pureT (a697, a698)) fun p696 => pureT (p696.1.length : Int)) fun a699 => bindT (pureT (4 : Int)) fun a700 => pureT (!decide (a699 = a700))) fun a715 => iteT a715 (pureT true) (bindT (bindT (bindT (pureT a685) fun a701 => bindT (pureT (0 : Int)) fun a702 => ixT a701 a702) fun a707 => bindT (bindT (bindT (pureT a685) fun a703 => bindT (pureT (2 : Int)) fun a704 => ixT a703 a704) fun a705 => bindT (pureT ([] : List Cs)) fun a706 => pureT (a705 :: a706)) fun a708 => pureT (a707 :: a708)) fun a713 => bindT (bindT (pureT (['m', 'o', 'd', 'u', 'l', 'e'] : Cs)) fun a711 => bindT (bindT (pureT (['p', 'e', 'r', 'i', 'o', 'd'] : Cs)) fun a709 => bindT (pureT ([] : List Cs)) fun a710 => pureT (a709 :: a710)) fun a712 => pureT (a711 :: a712)) fun a714 => pureT (!decide (a713 = a714)))))) (fun b718 => if b718 = true then (pureT () (fun _ => X ⟨"BadReport", none⟩) X) else ((bindT (bindT (bindT (pureT a685) fun a720 => bindT (pureT (3 : Int)) fun a721 => ixT a720 a721) fun a722 => bindT (pureT ()) fun a723 => pureT (a722, a723)) fun p719 => p_read_integer p719.1) (fun a724 => ((bindT (bindT (pureT a680) fun a728 => bindT (bindT (pureT (1 : Int)) fun a725 => pureT (some a725)) fun a729 => bindT (bindT (bindT (pureT (2 : Int)) fun a726 => pureT (-a726)) fun a727 => pureT (some a727)) fun a730 => pureT (cutT a728 a729 a730)) fun l731 => lcT l731 (fun x732 => (pureT true)) (fun x732 => (bindT (bindT (pureT x732) fun a734 => bindT (pureT ()) fun a735 => pureT (a734, a735)) fun p733 => p_read_row p733.1))) (fun a736 => ((bindT (bindT (bindT (bindT (pureT a685) fun a738 => bindT (pureT (1 : Int)) fun a739 => ixT a738 a739) fun a740 => bindT (pureT ()) fun a741 => pureT (a740, a741)) fun p737 => p_read_name p737.1) fun a747 => bindT (bindT (pureT a724) fun a745 => bindT (bindT (bindT (pureT a736) fun a743 => bindT (pureT ()) fun a744 => pureT (a743, a744)) fun p742 => pureT p742.1) fun a746 => pureT (a745, a746)) fun a748 => pureT (a747, a748)) (fun a749 => ((bindT (bindT (pureT a736) fun l750 => lcT l750 (fun x751 => (bindT (bindT (pureT x751) fun a752 => pureT a752.2.2.2) fun a753 => bindT (pureT ()) fun a754 => pureT (!a753.isNone))) (fun x751 => (bindT (bindT (bindT (bindT (bindT (pureT x751) fun a756 => pureT a756.2.2.2) fun a757 => optT a757) fun a758 => pureT a758.2) fun a759 => bindT (pureT ()) fun a760 => pureT (a759, a760)) fun p755 => pureT (p755.1.length : Int)))) fun a761 => grdT (a761.length < 64) (uSort a761)) (fun a762 => ((bindT (bindT (pureT a724) fun a763 => bindT (pureT (1 : Int)) fun a764 => pureT (decide (a763 < a764))) fun a781 => iteT a781 (pureT true) (bindT (bindT (bindT (bindT (pureT a762) fun a766 => bindT (pureT ()) fun a767 => pureT (a766, a767)) fun p765 => pureT (p765.1.length : Int)) fun a768 => bindT (pureT (1 : Int)) fun a769 => pureT (decide (a769 < a768))) fun a780 => iteT a780 (pureT true) (bindT (bindT (bindT (pureT a736) fun l771 => lcT l771 (fun x772 => (pureT true)) (fun x772 => (bindT (pureT x772) fun a773 => pureT a773.1))) fun a774 => grdT (a774.length < 4000) (cntT a774 : Int)) fun a778 => bindT (bindT (bindT (pureT a736) fun a776 => bindT (pureT ()) fun a777 => pureT (a776, a777)) fun p775 => pureT (p775.1.length : Int)) fun a779 => pureT (decide (a778 < a779))))) (fun b782 => if b782 = true then (pureT () (fun _ => X ⟨"BadReport", none⟩) X) else ((bindT (bindT (pureT a680) fun a784 => bindT (bindT (pureT (2 : Int)) fun a783 => pureT (-a783)) fun a785 => ixT a784 a785) fun a790 => bindT (bindT (bindT (bindT (pureT a749) fun a787 => bindT (pureT ()) fun a788 => pureT (a787, a788)) fun p786 => p_is_clean_report p786.1) fun a789 => iteT a789 (pureT (['c', 'l', 'e', 'a', 'n'] : Cs)) (pureT (['n', 'o', 't', ' ', 'c', 'l', 'e', 'a', 'n'] : Cs))) fun a791 => pureT (!decide (a790 = a791))) (fun b792 => if b792 = true then (pureT () (fun _ => X ⟨"BadReport", none⟩) X) else ((pureT a749) Q X)) X)) X)) X)) X)) X)) X)) X)) X)) X)
theorem t_read_report : FT f_read_report (rCons (rV nC) rNil) (rV (nT (tC nC (tC nI (t1 (nV (nT (tC nC (tC (nO nI) (tC (nO nI) (t1 (nO (nT (tC nI (t1 (nV nB)))))))))))))))) (fun a => p_read_report a.1) := by
  unfold f_read_report
  refine ft_pur ?_
  rintro st0 _ ⟨u0, _⟩ hp ⟨_, _, rfl, rfl, rfl⟩ Q X
  show SS ⟨st0, [some (nC u0), none, none, none, none, none, none, none, none], [], []⟩ _ b_read_report (p_read_report u0 Q X)
  unfold b_read_report p_read_report
  exact (y_set GF.x (x_lst (l_splitT x_var (x_c (en := nC) ([Char.ofNat 10] : Cs)))) (fun a680 => (y_set GF.x (x_lst (l_splitT (x_op o_ix (v2s x_var) (x_c (en := nI) (0 : Int))) (x_c (en := nC) ([' '] : Cs)))) (fun a685 => (y_ifA GF.x (ts_or (ts_val (x_op o_lt (x_b b_len (a_cons' (v2s x_var) a_nil')) (x_c (en := nI) (3 : Int)))) (ts_or (ts_val (x_op (o_ne (en := nC)) (x_op o_ix (v2s x_var) (x_un u_neg (x_c (en := nI) (1 : Int)))) (x_c (en := nC) ([] : Cs)))) (ts_or (ts_val (x_op (o_ne (en := nI)) (x_b b_len (a_cons' (v2s x_var) a_nil')) (x_c (en := nI) (4 : Int)))) (ts_val (x_op (o_neL (en := nC)) (v2l (x_lst (li_C (x_op o_ix (v2s x_var) (x_c (en := nI) (0 : Int))) (li_C (x_op o_ix (v2s x_var) (x_c (en := nI) (2 : Int))) (li_0 (en := nC)))))) (v2l (x_lst (li_C (x_c (en := nC) (['m', 'o', 'd', 'u', 'l', 'e'] : Cs)) (li_C (x_c (en := nC) (['p', 'e', 'r', 'i', 'o', 'd'] : Cs)) (li_0 (en := nC))))))))))) (y_raise (GX.z GF.x) (x_c (en := nU) ())) (y_skip (y_set GF.x (x_call t_read_integer (a_cons' (x_op o_ix (v2s x_var) (x_c (en := nI) (3 : Int))) a_nil')) (fun a724 => (y_set GF.x (x_lst (x_lc (i_seq (p_lst (x_lst (l_sl' (v2l x_var) (pt_some (x_c (en := nI) (1 : Int))) (pt_some (x_un u_neg (x_c (en := nI) (2 : Int)))))))) (tg_n (en := nC)) (fun x732 => ts_yes) (fun x732 => (x_call t_read_row (a_cons' x_var a_nil'))))) (fun a736 => (y_set GF.x (x_tup (tt_C (x_call t_read_name (a_cons' (x_op o_ix (v2s x_var) (x_c (en := nI) (1 : Int))) a_nil')) (tt_C x_var (tt_1 (x_b b_tup (a_cons' (v2s x_var) a_nil')))))) (fun a749 => (y_set GF.x (x_lst (l_sortU' (v2l (x_lst (x_lc (i_seq (p_lst x_var)) (tg_n (en := (nT (tC nC (tC (nO nI) (tC (nO nI) (t1 (nO (nT (tC nI (t1 (nV nB)))))))))))) (fun x751 => (ts_val (x_op (o_notN (en := (nT (tC nI (t1 (nV nB)))))) (o_ixT (k := 3) (ix_S (ix_S (ix_S ix_one))) x_var) (x_c (en := nU) ())))) (fun x751 => (x_b b_len (a_cons' (t2s (o_ixT (k := 1) (ix_S ix_one) (c_get (o_ixT (k := 3) (ix_S (ix_S (ix_S ix_one))) x_var)))) a_nil')))))))) (fun a762 => (y_ifA GF.x (ts_or (ts_val (x_op o_lt x_var (x_c (en := nI) (1 : Int)))) (ts_or (ts_val (x_op o_gt (x_b b_len (a_cons' (v2s x_var) a_nil')) (x_c (en := nI) (1 : Int)))) (ts_val (x_op o_lt (x_lenSet (v2s (x_lst (x_lc (i_seq (p_lst x_var)) (tg_n (en := (nT (tC nC (tC (nO nI) (tC (nO nI) (t1 (nO (nT (tC nI (t1 (nV nB)))))))))))) (fun x772 => ts_yes) (fun x772 => (o_ixT (k := 0) ix_0 x_var)))))) (x_b b_len (a_cons' (v2s x_var) a_nil')))))) (y_raise (GX.z GF.x) (x_c (en := nU) ())) (y_skip (y_ifA GF.x (ts_val (x_op (o_ne (en := nC)) (x_op o_ix (v2s x_var) (x_un u_neg (x_c (en := nI) (2 : Int)))) (x_if (ts_B (x_call t_is_clean_report (a_cons' x_var a_nil'))) (x_c (en := nC) (['c', 'l', 'e', 'a', 'n'] : Cs)) (x_c (en := nC) (['n', 'o', 't', ' ', 'c', 'l', 'e', 'a', 'n'] : Cs))))) (y_raise (GX.z GF.x) (x_c (en := nU) ())) (y_skip (y_ret GF.x GF.r x_var)))))))))))))))))))
def p_show_margin (u0 : (Option Int)) : PT Cs := fun Q X => ((bindT (bindT (pureT u0) fun a793 => bindT (pureT ()) fun a794 => pureT (a793.isNone)) fun a799 => iteT a799 (pureT (['n', 'o', 'n', 'e'] : Cs)) (bindT (bindT (bindT (pureT u0) fun a796 => optT a796) fun a797 => bindT (pureT ()) fun a798 => pureT (a797, a798)) fun p795 => grdT (p795.1.natAbs.log2 < 1920) (strI p795.1))) Q X)
theorem t_show_margin : FT f_show_margin (rCons (rV (nO nI)) rNil) (rV nC) (fun a => p_show_margin a.1) := by
  unfold f_show_margin
  refine ft_pur ?_
  rintro st0 _ ⟨u0, _⟩ hp ⟨_, _, rfl, rfl, rfl⟩ Q X
  show SS ⟨st0, [some ((nO nI) u0)], [], []⟩ _ b_show_margin (p_show_margin u0 Q X)
  unfold b_show_margin p_show_margin
  exact (y_ret GF.x GF.r (x_if (ts_val (x_op (o_isN (en := nI)) x_var (x_c (en := nU) ()))) (x_c (en := nC) (['n', 'o', 'n', 'e'] : Cs)) (x_b b_strI (a_cons' (c_get x_var) a_nil'))))
def p_show_bits (u0 : (List Bool)) : PT Cs := fun Q X => ((bindT (bindT (pureT u0) fun a800 => pureT (!a800.isEmpty)) fun a806 => iteT a806 (bindT (pureT ([] : Cs)) fun a804 => bindT (bindT (pureT u0) fun l801 => lcT l801 (fun x802 => (pureT true)) (fun x802 => (bindT (pureT x802) fun a803 => iteT a803 (pureT (['1'] : Cs)) (pureT (['0'] : Cs))))) fun a805 => grdT ((List.map List.length a805).sum + a805.length * a804.length ≤ lim) (joinT a804 a805)) (pureT (['-'] : Cs))) Q X)
theorem t_show_bits : FT f_show_bits (rCons (rV (nV nB)) rNil) (rV nC) (fun a => p_show_bits a.1) := by
  unfold f_show_bits
  refine ft_pur ?_
  rintro st0 _ ⟨u0, _⟩ hp ⟨_, _, rfl, rfl, rfl⟩ Q X
  show SS ⟨st0, [some ((nV nB) u0), none], [], []⟩ _ b_show_bits (p_show_bits u0 Q X)
  unfold b_show_bits p_show_bits
  exact (y_ret GF.x GF.r (x_if (ts_S (t2s x_var)) (x_join (x_c (en := nC) ([] : Cs)) (v2s (x_lst (x_lc (i_seq (p_tup x_var)) (tg_n (en := nB)) (fun x802 => ts_yes) (fun x802 => (x_if (ts_B x_var) (x_c (en := nC) (['1'] : Cs)) (x_c (en := nC) (['0'] : Cs)))))))) (x_c (en := nC) (['-'] : Cs))))
def p_write_report (u0 : (Cs × Int × (List (Cs × (Option Int) × (Option Int) × (Option (Int × (List Bool))))))) : PT Cs := fun Q X => ((pureT u0) (fun a807 => ((bindT (bindT (pureT (['m', 'o', 'd', 'u', 'l', 'e', ' '] : Cs)) fun a810 => bindT (grdT (([] : Cs).length + a810.length ≤ lim) ()) fun _ => (bindT (bindT (pureT a807.1) fun a808 => grdT (a808.length ≤ lim) a808) fun a811 => bindT (grdT ((([] : Cs) ++ a810).length + a811.length ≤ lim) ()) fun _ => (bindT (pureT ([' ', 'p', 'e', 'r', 'i', 'o', 'd', ' '] : Cs)) fun a812 => bindT (grdT (((([] : Cs) ++ a810) ++ a811).length + a812.length ≤ lim) ()) fun _ => (bindT (bindT (pureT a807.2.1) fun a809 => grdT (a809.natAbs.log2 < 1920) (strI a809)) fun a813 => bindT (grdT ((((([] : Cs) ++ a810) ++ a811) ++ a812).length + a813.length ≤ lim) ()) fun _ => (pureT ((((([] : Cs) ++ a810) ++ a811) ++ a812) ++ a813)))))) fun a814 => bindT (pureT ([] : List Cs)) fun a815 => pureT (a814 :: a815)) (fun a816 => ((pureT a807.2.2) (fun l877 => forT l877 a816 (fun x820 s818 nx823 bk824 => ((bindT (pureT (['r', 'e', 'g', ' '] : Cs)) fun a834 => bindT (grdT (([] : Cs).length + a834.length ≤ lim) ()) fun _ => (bindT (bindT (pureT x820.1) fun a825 => grdT (a825.length ≤ lim) a825) fun a835 => bindT (grdT ((([] : Cs) ++ a834).length + a835.length ≤ lim) ()) fun _ => (bindT (pureT ([' ', 's', 'e', 't', 'u', 'p', ' '] : Cs)) fun a836 => bindT (grdT (((([] : Cs) ++ a834) ++ a835).length + a836.length ≤ lim) ()) fun _ => (bindT (bindT (bindT (bindT (pureT x820.2.1) fun a827 => bindT (pureT ()) fun a828 => pureT (a827, a828)) fun p826 => p_show_margin p826.1) fun a829 => grdT (a829.length ≤ lim) a829) fun a837 => bindT (grdT ((((([] : Cs) ++ a834) ++ a835) ++ a836).length + a837.length ≤ lim) ()) fun _ => (bindT (pureT ([' ', 'h', 'o', 'l', 'd', ' '] : Cs)) fun a838 => bindT (grdT (((((([] : Cs) ++ a834) ++ a835) ++ a836) ++ a837).length + a838.length ≤ lim) ()) fun _ => (bindT (bindT (bindT (bindT (pureT x820.2.2.1) fun a831 => bindT (pureT ()) fun a832 => pureT (a831, a832)) fun p830 => p_show_margin p830.1) fun a833 => grdT (a833.length ≤ lim) a833) fun a839 => bindT (grdT ((((((([] : Cs) ++ a834) ++ a835) ++ a836) ++ a837) ++ a838).length + a839.length ≤ lim) ()) fun _ => (pureT ((((((([] : Cs) ++ a834) ++ a835) ++ a836) ++ a837) ++ a838) ++ a839)))))))) (fun a840 => ((bindT (pureT x820.2.2.2) fun a841 => bindT (pureT ()) fun a842 => pureT (a841.isNone)) (fun b864 => if b864 = true then ((bindT (pureT a840) fun a843 => bindT (pureT ([' ', 'o', 'k'] : Cs)) fun a844 => grdT (a843.length + a844.length ≤ lim) (a843 ++ a844)) (fun a845 => appT s818 a845 (fun ys846 => (nx823 ys846))) X) else ((bindT (bindT (pureT a840) fun a847 => grdT (a847.length ≤ lim) a847) fun a857 => bindT (grdT (([] : Cs).length + a857.length ≤ lim) ()) fun _ => (bindT (pureT ([' ', 'l', 'o', 'o', 's', 'e', ' ', 'a', 't', ' '] : Cs)) fun a858 => bindT (grdT ((([] : Cs) ++ a857).length + a858.length ≤ lim) ()) fun _ => (bindT (bindT (bindT (bindT (pureT x820.2.2.2) fun a848 => optT a848) fun a849 => pureT a849.1) fun a850 => grdT (a850.natAbs.log2 < 1920) (strI a850)) fun a859 => bindT (grdT (((([] : Cs) ++ a857) ++ a858).length + a859.length ≤ lim) ()) fun _ => (bindT (pureT ([' ', 'f', 'o', 'r', ' '] : Cs)) fun a860 => bindT (grdT ((((([] : Cs) ++ a857) ++ a858) ++ a859).length + a860.length ≤ lim) ()) fun _ => (bindT (bindT (bindT (bindT (bindT (bindT (pureT x820.2.2.2) fun a852 => optT a852) fun a853 => pureT a853.2) fun a854 => bindT (pureT ()) fun a855 => pureT (a854, a855)) fun p851 => p_show_bits p851.1) fun a856 => grdT (a856.length ≤ lim) a856) fun a861 => bindT (grdT (((((([] : Cs) ++ a857) ++ a858) ++ a859) ++ a860).length + a861.length ≤ lim) ()) fun _ => (pureT (((((([] : Cs) ++ a857) ++ a858) ++ a859) ++ a860) ++ a861))))))) (fun a862 => appT s818 a862 (fun ys863 => (nx823 ys863))) X)) X)) X)) (fun s821 => ((bindT (bindT (bindT (pureT u0) fun a866 => bindT (pureT ()) fun a867 => pureT (a866, a867)) fun p865 => p_is_clean_report p865.1) fun a868 => iteT a868 (pureT (['c', 'l', 'e', 'a', 'n'] : Cs)) (pureT (['n', 'o', 't', ' ', 'c', 'l', 'e', 'a', 'n'] : Cs))) (fun a869 => appT s821 a869 (fun ys870 => ((bindT (pureT ([] : Cs)) fun a875 => bindT (bindT (pureT ys870) fun l871 => lcT l871 (fun x872 => (pureT true)) (fun x872 => (bindT (pureT x872) fun a873 => bindT (pureT ([Char.ofNat 10] : Cs)) fun a874 => grdT (a873.length + a874.length ≤ lim) (a873 ++ a874)))) fun a876 => grdT ((List.map List.length a876).sum + a876.length * a875.length ≤ lim) (joinT a875 a876)) Q X))) X))) X)) X)) X)
theorem t_write_report : FT f_write_report (rCons (rV (nT (tC nC (tC nI (t1 (nV (nT (tC nC (tC (nO nI) (tC (nO nI) (t1 (nO (nT (tC nI (t1 (nV nB)))))))))))))))) rNil) (rV nC) (fun a => p_write_report a.1) := by
  unfold f_write_report
  refine ft_pur ?_
  rintro st0 _ ⟨u0, _⟩ hp ⟨_, _, rfl, rfl, rfl⟩ Q X
  show SS ⟨st0, [some ((nT (tC nC (tC nI (t1 (nV (nT (tC nC (tC (nO nI) (tC (nO nI) (t1 (nO (nT (tC nI (t1 (nV nB))))))))))))))) u0), none, none, none, none, none, none, none, none, none], [], []⟩ _ b_write_report (p_write_report u0 Q X)
  unfold b_write_report p_write_report
  exact (y_asg GF.x x_var (tg_t (tgs_C (tg_n (en := nC)) (tgs_C (tg_n (en := nI)) (tgs_1 (tg_n (en := (nV (nT (tC nC (tC (nO nI) (tC (nO nI) (t1 (nO (nT (tC nI (t1 (nV nB))))))))))))))))) (fun a807 => (y_setN GF.x (li_C (x_joined (j_cons (x_c (en := nC) (['m', 'o', 'd', 'u', 'l', 'e', ' '] : Cs)) (j_cons (x_fmtS x_var) (j_cons (x_c (en := nC) ([' ', 'p', 'e', 'r', 'i', 'o', 'd', ' '] : Cs)) (j_cons (x_fmtI x_var) j_nil))))) (li_0 (en := nC))) (fun a816 n817 => (y_for (D := fun (v819 : Unit) (s818 : (List Cs)) => ⟨st0, [some ((nT (tC nC (tC nI (t1 (nV (nT (tC nC (tC (nO nI) (tC (nO nI) (t1 (nO (nT (tC nI (t1 (nV nB))))))))))))))) u0), some (nC a807.1), some (nI a807.2.1), some ((nV (nT (tC nC (tC (nO nI) (tC (nO nI) (t1 (nO (nT (tC nI (t1 (nV nB))))))))))) a807.2.2), some (.loc n817), none, none, none, none, none], [n817], [.lst (List.map nC s818)]⟩) (v0 := ()) (s0 := a816) GF.x (i_seq (p_tup x_var)) (tg_t (tgs_C (tg_n (en := nC)) (tgs_C (tg_n (en := (nO nI))) (tgs_C (tg_n (en := (nO nI))) (tgs_1 (tg_n (en := (nO (nT (tC nI (t1 (nV nB)))))))))))) (wk_mk (.s (.s (.s (.s (.s (.n (.n (.n (.n (.n .nil)))))))))) (wkj 0 wk0)) (fun _ _ => pn_nil) (fun _ _ => rfl) (fun v819 s818 x820 nx823 bk824 => (y_set (GX.l GF.x) (x_joined (j_cons (x_c (en := nC) (['r', 'e', 'g', ' '] : Cs)) (j_cons (x_fmtS x_var) (j_cons (x_c (en := nC) ([' ', 's', 'e', 't', 'u', 'p', ' '] : Cs)) (j_cons (x_fmtS (x_call t_show_margin (a_cons' x_var a_nil'))) (j_cons (x_c (en := nC) ([' ', 'h', 'o', 'l', 'd', ' '] : Cs)) (j_cons (x_fmtS (x_call t_show_margin (a_cons' x_var a_nil'))) j_nil))))))) (fun a840 => (y_ifT (GX.l GF.x) (ts_val (x_op (o_isN (en := (nT (tC nI (t1 (nV nB)))))) x_var (x_c (en := nU) ()))) (ss_tail (y_app (xs := s818) 0 (GX.l GF.x) (x_op o_addS x_var (x_c (en := nC) ([' ', 'o', 'k'] : Cs))) (fun ys846 => (y_end (v := ()) (s := ys846) rfl (wk_mk (.s (.s (.s (.s (.s (.n (.n (.n (.n (.n .nil)))))))))) (wkj 0 wk0)))))) (ss_tail (y_app (xs := s818) 0 (GX.l GF.x) (x_joined (j_cons (x_fmtS x_var) (j_cons (x_c (en := nC) ([' ', 'l', 'o', 'o', 's', 'e', ' ', 'a', 't', ' '] : Cs)) (j_cons (x_fmtI (o_ixT (k := 0) ix_0 (c_get x_var))) (j_cons (x_c (en := nC) ([' ', 'f', 'o', 'r', ' '] : Cs)) (j_cons (x_fmtS (x_call t_show_bits (a_cons' (o_ixT (k := 1) (ix_S ix_one) (c_get x_var)) a_nil'))) j_nil)))))) (fun ys863 => (y_end (v := ()) (s := ys863) rfl (wk_mk (.s (.s (.s (.s (.s (.n (.n (.n (.n (.n .nil)))))))))) (wkj 0 wk0)))))))))) (fun v822 s821 => (y_app (xs := s821) 0 GF.x (x_if (ts_B (x_call t_is_clean_report (a_cons' x_var a_nil'))) (x_c (en := nC) (['c', 'l', 'e', 'a', 'n'] : Cs)) (x_c (en := nC) (['n', 'o', 't', ' ', 'c', 'l', 'e', 'a', 'n'] : Cs))) (fun ys870 => (y_ret GF.x GF.r (x_join (x_c (en := nC) ([] : Cs)) (v2s (x_lst (x_lc (i_seq (p_mut 0)) (tg_n (en := nC)) (fun x872 => ts_yes) (fun x872 => (x_op o_addS x_var (x_c (en := nC) ([Char.ofNat 10] : Cs)))))))))))))))))
def p_law : PT Bool := fun Q X => ((bindT (pureT (4 : Int)) fun a878 => grdT (inR a878) (rangeT 0 a878)) (fun l939 => forT l939 () (fun x881 s879 nx884 bk885 => ((bindT (bindT (pureT ()) fun a887 => bindT (pureT ()) fun a888 => pureT (a887, a888)) fun p886 => p_Lreport ) (fun a889 => ((bindT (bindT (pureT a889) fun a891 => bindT (pureT ()) fun a892 => pureT (a891, a892)) fun p890 => p_Ltext p890.1) (fun a893 => ((bindT (bindT (bindT (pureT a889) fun a894 => pureT a894.2.2) fun l895 => lcT l895 (fun x896 => (bindT (bindT (pureT x896) fun a897 => pureT a897.2.2.2) fun a898 => bindT (pureT ()) fun a899 => pureT (!a898.isNone))) (fun x896 => (pureT x896))) fun a900 => bindT (pureT ([] : List (Cs × (Option Int) × (Option Int) × (Option (Int × (List Bool)))))) fun a901 => pureT (decide (a900 = a901))) (fun a902 => ((bindT (bindT (bindT (bindT (bindT (bindT (bindT (pureT a889) fun a905 => bindT (pureT ()) fun a906 => pureT (a905, a906)) fun p904 => p_write_report p904.1) fun a907 => pureT (nC a907)) fun a911 => bindT (bindT (bindT (pureT a893) fun a908 => pureT (nC a908)) fun a909 => bindT (pureT ()) fun a910 => pureT (a909, a910)) fun a912 => pureT (a911, a912)) fun p903 => sameT p903.1 p903.2.1) fun a913 => pureT (!a913)) fun a925 => iteT a925 (pureT true) (bindT (bindT (bindT (bindT (bindT (bindT (pureT a889) fun a916 => bindT (pureT ()) fun a917 => pureT (a916, a917)) fun p915 => p_is_clean_report p915.1) fun a918 => pureT (nB a918)) fun a922 => bindT (bindT (bindT (pureT a902) fun a919 => pureT (nB a919)) fun a920 => bindT (pureT ()) fun a921 => pureT (a920, a921)) fun a923 => pureT (a922, a923)) fun p914 => sameT p914.1 p914.2.1) fun a924 => pureT (!a924))) (fun b926 => if b926 = true then ((pureT false) Q X) else ((bindT (bindT (bindT (bindT (bindT (bindT (pureT a893) fun a929 => bindT (pureT ()) fun a930 => pureT (a929, a930)) fun p928 => p_read_report p928.1) fun a931 => pureT ((nT (tC nC (tC nI (t1 (nV (nT (tC nC (tC (nO nI) (tC (nO nI) (t1 (nO (nT (tC nI (t1 (nV nB))))))))))))))) a931)) fun a935 => bindT (bindT (bindT (pureT a889) fun a932 => pureT ((nT (tC nC (tC nI (t1 (nV (nT (tC nC (tC (nO nI) (tC (nO nI) (t1 (nO (nT (tC nI (t1 (nV nB))))))))))))))) a932)) fun a933 => bindT (pureT ()) fun a934 => pureT (a933, a934)) fun a936 => pureT (a935, a936)) fun p927 => sameT p927.1 p927.2.1) fun a937 => pureT (!a937)) (fun b938 => if b938 = true then ((pureT false) Q X) else (nx884 ())) X)) X)) X)) X)) X)) (fun s882 => ((pureT true) Q X))) X)
theorem t_law (hp : p_law (fun b => b = true) (fun _ => False)) : ∀ ns : List Int, ns.length ≤ 63 → f_law [.ro (ns.map W.int)] [] = .ok (.bl true) [] := by
  unfold f_law b_law
  refine law_mk (i := 0) (pl := p_law) (fun c Q X hc => ?_) hp
  show SS ⟨[c], [none, some (.loc 0), none, none, none, none, none], [], []⟩ _ _ _
  unfold p_law
  exact (y_for (D := fun (v880 : Unit) (s879 : Unit) => ⟨[c], [none, some (.loc 0), none, none, none, none, none], [], []⟩) (v0 := ()) (s0 := ()) GF.x (i_range1 (x_c (en := nI) (4 : Int))) (tg_n (en := nI)) (wk_mk (.n (.s (.n (.n (.n (.n (.n .nil))))))) wk0) (fun _ _ => pn_nil) (fun _ _ => rfl) (fun v880 s879 x881 nx884 bk885 => (y_set (GX.l GF.x) (x_call t_Lreport (a_cons' x_pool a_nil')) (fun a889 => (y_set (GX.l GF.x) (x_call t_Ltext (a_cons' x_var a_nil')) (fun a893 => (y_set (GX.l GF.x) (x_op (o_eqL (en := (nT (tC nC (tC (nO nI) (tC (nO nI) (t1 (nO (nT (tC nI (t1 (nV nB)))))))))))) (v2l (x_lst (x_lc (i_seq (p_tup (o_ixT (k := 2) (ix_S (ix_S ix_one)) x_var))) (tg_n (en := (nT (tC nC (tC (nO nI) (tC (nO nI) (t1 (nO (nT (tC nI (t1 (nV nB)))))))))))) (fun x896 => (ts_val (x_op (o_notN (en := (nT (tC nI (t1 (nV nB)))))) (o_ixT (k := 3) (ix_S (ix_S (ix_S ix_one))) x_var) (x_c (en := nU) ())))) (fun x896 => x_var)))) (v2l (x_lst (li_0 (en := (nT (tC nC (tC (nO nI) (tC (nO nI) (t1 (nO (nT (tC nI (t1 (nV nB))))))))))))))) (fun a902 => (y_ifA (GX.l GF.x) (ts_or (ts_not (ts_B (x_call t_Lsame (a_cons' (c_W (x_call t_write_report (a_cons' x_var a_nil'))) (a_cons' (c_W x_var) a_nil'))))) (ts_not (ts_B (x_call t_Lsame (a_cons' (c_W (x_call t_is_clean_report (a_cons' x_var a_nil'))) (a_cons' (c_W x_var) a_nil')))))) (y_ret (GX.z (GX.l GF.x)) (GR.z (GR.l GF.r)) (x_c (en := nB) false)) (y_skip (y_ifT (GX.l GF.x) (ts_not (ts_B (x_call t_Lsame (a_cons' (c_W (x_call t_read_report (a_cons' x_var a_nil'))) (a_cons' (c_W x_var) a_nil'))))) (y_ret (GX.l GF.x) (GR.l GF.r) (x_c (en := nB) false)) (y_end (v := ()) (s := ()) rfl (wk_mk (.n (.s (.n (.n (.n (.n (.n .nil))))))) wk0)))))))))))) (fun v883 s882 => (y_ret GF.x GF.r (x_c (en := nB) true))))
end M

-- Spec
set_option autoImplicit false
set_option synthInstance.maxHeartbeats 4000000
set_option synthInstance.maxSize 20000
set_option Elab.async false
set_option linter.all false
set_option maxRecDepth 100000
namespace M
/-! draws and small facts -/
theorem drawT_of {m : Int} {Q : Int → Prop} {X : Ex → Prop} (h : 0 < m) (h2 : m < 20000000000000000000000000000000000000000) (k : ∀ v, 0 ≤ v → v < m → Q v) : drawT m Q X :=
  ⟨h, log_pow _ (Nat.lt_of_lt_of_le (show m.natAbs < 2 ^ 135 by omega) (Nat.pow_le_pow_right (by omega) (by omega))), k⟩
theorem drawT_nat {m : Int} {Q : Int → Prop} {X : Ex → Prop} (h : 0 < m) (h2 : m < 20000000000000000000000000000000000000000) (k : ∀ v : Nat, (v : Int) < m → Q v) : drawT m Q X :=
  drawT_of h h2 fun v h0 h1 => by have := k v.toNat (by omega); rwa [Int.toNat_of_nonneg h0] at this
theorem inR_of (i : Int) (h : -4000000000000 < i) (h2 : i < 4000000000000) : inR i := by unfold inR; omega
theorem lim_of {n : Nat} (h : n ≤ 9000000) : n ≤ lim := by unfold lim; omega
theorem lim_lt {n : Nat} (h : n < 9000000) : n < lim := by unfold lim; omega
theorem log_of (n : Nat) (h : n < 100000000) : n.log2 < 1920 := by
  by_cases h0 : n = 0
  · subst h0; simp
  · exact (Nat.log2_lt h0).2 (Nat.lt_of_lt_of_le (show n < 2 ^ 27 by omega) (Nat.pow_le_pow_right (by omega) (by omega)))
theorem log_9 (n : Nat) (h : n < 1000000000000000000000000000000) : n.log2 < 9000 := log_pow _ (Nat.lt_of_lt_of_le (show n < 2 ^ 100 by omega) (Nat.pow_le_pow_right (by omega) (by omega)))
theorem strI_nat (n : Nat) : strI (n : Int) = Nat.toDigits 10 n := by
  unfold strI
  show (Nat.repr n).toList = _
  unfold Nat.repr
  simp
theorem digits_le (b : Nat) : ∀ (f n : Nat) (acc : List Char), (Nat.toDigitsCore b f n acc).length ≤ f + acc.length
  | 0, n, acc => by simp [Nat.toDigitsCore]
  | f + 1, n, acc => by
    unfold Nat.toDigitsCore
    show (if n / b = 0 then Nat.digitChar (n % b) :: acc else Nat.toDigitsCore b f (n / b) (Nat.digitChar (n % b) :: acc)).length ≤ _
    split
    · simp; omega
    · have := digits_le b f (n / b) (Nat.digitChar (n % b) :: acc)
      rw [List.length_cons] at this
      omega
theorem strI_len (n : Nat) : (strI (n : Int)).length ≤ n + 1 := by
  rw [strI_nat]
  have := digits_le 10 (n + 1) n []
  simpa [Nat.toDigits] using this
/-- a name: a letter and a number -/
def nm (c : Char) (k : Nat) : Cs := c :: strI (k : Int)
theorem lc_names {Q : List Cs → Prop} {X : Ex → Prop} (c : Char) (n : Int) (h : n < 100000) (h0 : 0 ≤ n) (k : Q ((List.range n.toNat).map (nm c))) : lcT (rangeT 0 n) (fun _ => pureT true) (fun x Q X => x.natAbs.log2 < 1920 ∧ 1 + (strI x).length ≤ lim ∧ Q (c :: strI x)) Q X := by
  refine lcT_map_of (fun x => c :: strI x) (lim_of (by rw [rangeT_len]; omega)) (fun x hx Q q => ?_) ?_
  · obtain ⟨h1, h2⟩ := mem_rangeT.1 hx
    obtain ⟨m, rfl⟩ := Int.eq_ofNat_of_zero_le h1
    have := strI_len m
    exact ⟨log_of _ (by simp; omega), lim_of (by omega), q⟩
  · rw [← Int.toNat_of_nonneg h0, rangeT_nat, List.map_map]
    exact k
/-- items picked from a list -/
theorem ixT_pick {α : Type} {xs : List α} {i : Int} {Q : α → Prop} {X : Ex → Prop} (h0 : 0 ≤ i) (h1 : i < xs.length) (k : ∀ a, a ∈ xs → Q a) : ixT xs i Q X := by
  refine ixT_of i.toNat (by omega) (by omega) (k _ (List.getElem_mem _))
/-! texts: split, join, numerals -/
theorem splC_part {S : Char} : ∀ {p acc rest : Cs}, S ∉ p → splC S acc (p ++ S :: rest) = (acc ++ p) :: splC S [] rest
  | [], acc, rest, _ => by simp [splC]
  | c :: p, acc, rest, h => by
    have hc : ¬ c = S := fun e => h (by simp [e])
    have := splC_part (p := p) (acc := acc ++ [c]) (rest := rest) (fun e => h (List.mem_cons_of_mem _ e))
    simpa [splC, hc] using this
theorem splC_last {S : Char} : ∀ {p acc : Cs}, S ∉ p → splC S acc p = [acc ++ p]
  | [], acc, _ => by simp [splC]
  | c :: p, acc, h => by
    have hc : ¬ c = S := fun e => h (by simp [e])
    have := splC_last (p := p) (acc := acc ++ [c]) (fun e => h (List.mem_cons_of_mem _ e))
    simpa [splC, hc] using this
theorem parC_part {S : Char} : ∀ {p acc rest : Cs}, S ∉ p → parC S acc (p ++ S :: rest) = some (acc ++ p, rest)
  | [], acc, rest, _ => by simp [parC]
  | c :: p, acc, rest, h => by
    have hc : ¬ c = S := fun e => h (by simp [e])
    have := parC_part (p := p) (acc := acc ++ [c]) (rest := rest) (fun e => h (List.mem_cons_of_mem _ e))
    simpa [parC, hc] using this
theorem parC_none {S : Char} : ∀ {p acc : Cs}, S ∉ p → parC S acc p = none
  | [], acc, _ => by simp [parC]
  | c :: p, acc, h => by
    have hc : ¬ c = S := fun e => h (by simp [e])
    have := parC_none (p := p) (acc := acc ++ [c]) (fun e => h (List.mem_cons_of_mem _ e))
    simpa [parC, hc] using this
theorem joinT_cons (a p : Cs) : ∀ ps : List Cs, joinT a (p :: ps) = p ++ (ps.map (a ++ ·)).flatten
  | [] => by simp [joinT]
  | q :: r => by
    have := joinT_cons a q r
    simp [joinT, this]
theorem joinT_nil : ∀ ps : List Cs, joinT [] ps = ps.flatten
  | [] => rfl
  | p :: ps => by rw [joinT_cons]; simp
theorem splC_join {S : Char} : ∀ {ps : List Cs}, ps ≠ [] → (∀ p ∈ ps, S ∉ p) → splC S [] (joinT [S] ps) = ps
  | [], h, _ => absurd rfl h
  | [p], _, h => by simpa [joinT] using splC_last (acc := []) (h p (by simp))
  | p :: q :: r, _, h => by
    have := splC_join (ps := q :: r) (by simp) fun x hx => h x (List.mem_cons_of_mem _ hx)
    show splC S [] (p ++ S :: joinT [S] (q :: r)) = _
    rw [splC_part (h p (by simp)), this]; simp
theorem splC_lines {S : Char} : ∀ {ls : List Cs}, (∀ l ∈ ls, S ∉ l) → splC S [] ((ls.map (· ++ [S])).flatten) = ls ++ [[]]
  | [], _ => by simp [splC]
  | l :: ls, h => by
    have := splC_lines (ls := ls) fun x hx => h x (List.mem_cons_of_mem _ hx)
    simp only [List.map_cons, List.flatten_cons, List.append_assoc, List.singleton_append, List.cons_append]
    rw [splC_part (h l (by simp)), List.nil_append, List.nil_append, this]
/-! numerals -/
abbrev dgs : Cs := ['0', '1', '2', '3', '4', '5', '6', '7', '8', '9']
def dg (n : Nat) : Cs := Nat.toDigits 10 n
theorem dg_numL (n : Nat) : (dg n).map Char.toNat = TL.numL n := rfl
theorem strI_pos (n : Nat) : strI (n : Int) = dg n := strI_nat n
theorem strI_neg (n : Nat) : strI (-((n + 1 : Nat) : Int)) = '-' :: dg (n + 1) := by
  unfold strI dg
  show ("-" ++ Nat.repr (n + 1)).toList = _
  rw [String.toList_append]
  unfold Nat.repr
  simp
theorem dg_mem {n : Nat} {c : Char} (h : c ∈ dg n) : c ∈ dgs := by
  have h1 : c.toNat ∈ TL.numL n := by rw [← dg_numL]; exact List.mem_map_of_mem h
  obtain ⟨a, b⟩ := TL.numL_digits n _ h1
  have e : ∀ d : Char, c.toNat = d.toNat → c = d := fun d e => Char.toNat_inj.1 e
  have hc : c.toNat = 48 ∨ c.toNat = 49 ∨ c.toNat = 50 ∨ c.toNat = 51 ∨ c.toNat = 52 ∨ c.toNat = 53 ∨ c.toNat = 54 ∨ c.toNat = 55 ∨ c.toNat = 56 ∨ c.toNat = 57 := by omega
  rcases hc with q | q | q | q | q | q | q | q | q | q
  · rw [e '0' q]; decide
  · rw [e '1' q]; decide
  · rw [e '2' q]; decide
  · rw [e '3' q]; decide
  · rw [e '4' q]; decide
  · rw [e '5' q]; decide
  · rw [e '6' q]; decide
  · rw [e '7' q]; decide
  · rw [e '8' q]; decide
  · rw [e '9' q]; decide
theorem dg_free {n : Nat} {c : Char} (h : c ∉ dgs) : c ∉ dg n := fun e => h (dg_mem e)
theorem dg_ne (n : Nat) : dg n ≠ [] := fun e => TL.numL_ne n (by rw [← dg_numL, e]; rfl)
theorem dg_len {n k : Nat} (hk : 0 < k) (h : n < 10 ^ k) : (dg n).length ≤ k := by
  have := TL.numL_len hk h
  rwa [← dg_numL, List.length_map] at this
theorem numL_head : ∀ n : Nat, 1 ≤ n → ∃ c r, TL.numL n = c :: r ∧ c ≠ 48 := by
  intro n
  induction n using Nat.strongRecOn with
  | ind n ih =>
    intro h
    by_cases h10 : n < 10
    · exact ⟨_, [], TL.numL_lt h10, by omega⟩
    · obtain ⟨c, r, e, hc⟩ := ih (n / 10) (by omega) (by omega)
      exact ⟨c, r ++ [48 + n % 10], by rw [TL.numL_step (by omega), e]; rfl, hc⟩
theorem dg_head {n : Nat} (h : 1 ≤ n) : ∃ c r, dg n = c :: r ∧ c ≠ '0' := by
  obtain ⟨c, r, e, hc⟩ := numL_head n h
  cases e2 : dg n with
  | nil => exact absurd e2 (dg_ne n)
  | cons d q =>
    refine ⟨d, q, rfl, fun e3 => hc ?_⟩
    rw [← dg_numL, e2, List.map_cons, e3] at e
    cases e; rfl
theorem dg_zero : dg 0 = ['0'] := rfl
theorem intN_dg (n : Nat) (h : (dg n).length ≤ 4300) : intC (dg n) = some (n : Int) := by
  unfold intC intN
  rw [dg_numL]
  have := PySem.intText_digits (x := ⟨(TL.numL n).toArray⟩) (TL.numL_digits n) (TL.numL_ne n) (by rw [TL.len_tl]; show (TL.numL n).length ≤ _; rw [← dg_numL, List.length_map]; exact h)
  rw [this]
  show some ((PySem.NumText.digitsVal (TL.numL n) : Nat) : Int) = _
  rw [TL.numL_val]
theorem intN_neg (n : Nat) (h : (dg n).length ≤ 4200) : intC ('-' :: dg n) = some (-(n : Int)) := by
  unfold intC intN
  rw [List.map_cons, dg_numL]
  have := PySem.intText_neg (x := ⟨(45 :: TL.numL n).toArray⟩) (cs := TL.numL n) rfl (TL.numL_digits n) (TL.numL_ne n) (by rw [TL.len_tl]; show (45 :: TL.numL n).length ≤ _; rw [← dg_numL, List.length_cons, List.length_map]; omega)
  rw [show '-'.toNat = 45 from rfl, this]
  rw [TL.numL_val]
theorem intC_strI {i : Int} (h : (strI i).length ≤ 4000) : intC (strI i) = some i := by
  by_cases h0 : 0 ≤ i
  · obtain ⟨n, rfl⟩ := Int.eq_ofNat_of_zero_le h0
    rw [strI_pos] at h ⊢
    exact intN_dg n (by omega)
  · obtain ⟨n, rfl⟩ : ∃ n : Nat, i = -((n + 1 : Nat) : Int) := ⟨(-i - 1).toNat, by omega⟩
    rw [strI_neg] at h ⊢
    exact intN_neg _ (by simp at h; omega)
/-- a whole number below a bound: its sign and its figures -/
theorem strI_cases (i : Int) : (∃ n : Nat, i = n ∧ strI i = dg n) ∨ ∃ n : Nat, 1 ≤ n ∧ i = -(n : Int) ∧ strI i = '-' :: dg n := by
  by_cases h0 : 0 ≤ i
  · obtain ⟨n, rfl⟩ := Int.eq_ofNat_of_zero_le h0
    exact .inl ⟨n, rfl, strI_pos n⟩
  · obtain ⟨n, rfl⟩ : ∃ n : Nat, i = -((n + 1 : Nat) : Int) := ⟨(-i - 1).toNat, by omega⟩
    exact .inr ⟨n + 1, by omega, rfl, strI_neg n⟩
theorem strI_free {i : Int} {c : Char} (h : c ∉ dgs) (h2 : c ≠ '-') : c ∉ strI i := by
  rcases strI_cases i with ⟨n, -, e⟩ | ⟨n, -, -, e⟩ <;> rw [e]
  · exact dg_free h
  · simp only [List.mem_cons, not_or]
    exact ⟨h2, dg_free h⟩
theorem strI_lenK {i : Int} {k : Nat} (hk : 0 < k) (h : i.natAbs < 10 ^ k) : (strI i).length ≤ k + 1 := by
  rcases strI_cases i with ⟨n, rfl, e⟩ | ⟨n, -, rfl, e⟩ <;> rw [e]
  · have := dg_len (n := n) hk (by simpa using h)
    omega
  · have := dg_len (n := n) hk (by simpa using h)
    simp; omega
theorem log_big {i : Int} (h : i.natAbs < 10 ^ 60) : i.natAbs.log2 < 1920 := by
  by_cases h0 : i.natAbs = 0
  · rw [h0]; simp
  · exact (Nat.log2_lt h0).2 (Nat.lt_of_lt_of_le (show i.natAbs < 2 ^ 200 by omega) (Nat.pow_le_pow_right (by omega) (by omega)))
theorem flat_len {α : Type} (f : α → Cs) (N : Nat) : ∀ l : List α, (∀ x ∈ l, (f x).length ≤ N) → (l.map f).flatten.length ≤ l.length * N
  | [], _ => by simp
  | x :: l, h => by
    have := flat_len f N l fun y hy => h y (List.mem_cons_of_mem _ hy)
    have h1 := h x (by simp)
    simp only [List.map_cons, List.flatten_cons, List.length_append, List.length_cons, Nat.add_mul]
    omega
/-! letters, ends of lists -/
theorem inGt_of {c : Char} {s : Cs} {Q : Bool → Prop} {X : Ex → Prop} (h : c ∈ s) (k : Q false) : inG true [c] s Q X := ⟨c, rfl, by simpa [h] using k⟩
theorem inGf_of {c : Char} {s : Cs} {Q : Bool → Prop} {X : Ex → Prop} (h : c ∈ s) (k : Q true) : inG false [c] s Q X := ⟨c, rfl, by simpa [h] using k⟩
theorem ixST_0 {c : Char} {r : Cs} {Q : Cs → Prop} {X : Ex → Prop} (k : Q [c]) : ixST (c :: r) 0 Q X := ⟨by omega, by omega, c, rfl, k⟩
theorem ixST_in {s : Cs} {i : Int} {Q : Cs → Prop} {X : Ex → Prop} (h0 : 0 ≤ i) (h1 : i < s.length) (h2 : i < 1000) (k : ∀ c ∈ s, Q [c]) : ixST s i Q X := by
  have hl : i.toNat < s.length := by omega
  exact ⟨h0, by omega, s[i.toNat], List.getElem?_eq_getElem hl, k _ (List.getElem_mem _)⟩
theorem ixT_last {α : Type} {pre : List α} {a : α} {Q : α → Prop} {X : Ex → Prop} (k : Q a) : ixT (pre ++ [a]) (-1) Q X := by
  refine ⟨pre.length, a, ?_, by simp, k⟩
  simp [ixW]; omega
theorem setT_last {α : Type} {pre : List α} {a b : α} {K : List α → Prop} (k : K (pre ++ [b])) : setT (pre ++ [a]) (-1) b K := by
  refine ⟨pre.length, ?_, by simpa using k⟩
  simp [ixW]; omega
abbrev al26 : Cs := ['a', 'b', 'c', 'd', 'e', 'f', 'g', 'h', 'i', 'j', 'k', 'l', 'm', 'n', 'o', 'p', 'q', 'r', 's', 't', 'u', 'v', 'w', 'x', 'y', 'z']
abbrev al37 : Cs := ['a', 'b', 'c', 'd', 'e', 'f', 'g', 'h', 'i', 'j', 'k', 'l', 'm', 'n', 'o', 'p', 'q', 'r', 's', 't', 'u', 'v', 'w', 'x', 'y', 'z', '0', '1', '2', '3', '4', '5', '6', '7', '8', '9', '_']
theorem al_sub {c : Char} (h : c ∈ al26) : c ∈ al37 := by
  have : al37 = al26 ++ ['0', '1', '2', '3', '4', '5', '6', '7', '8', '9', '_'] := rfl
  rw [this]; exact List.mem_append_left _ h
structure GW (w : Cs) : Prop where
  h : ∃ c r, w = c :: r ∧ c ∈ al26
  al : ∀ c ∈ w, c ∈ al37
  len : w.length ≤ 14
theorem forT_c {α σ : Type} {x : α} {xs : List α} {s : σ} {B : α → σ → (σ → Prop) → (σ → Prop) → Prop} {K : σ → Prop} (h : B x s (fun s' => forT xs s' B K) K) : forT (x :: xs) s B K := h
theorem ixT_end {α : Type} {s : List α} {Q : α → Prop} {X : Ex → Prop} (h : s ≠ []) (k : ∀ a, Q a) : ixT s (-1) Q X := by
  obtain ⟨q, c, rfl⟩ : ∃ q c, s = q ++ [c] := ⟨s.dropLast, s.getLast h, (List.dropLast_concat_getLast h).symm⟩
  exact ixT_last (k c)
abbrev kws : List Cs := [['c', 'e', 'l', 'l'], ['p', 'i', 'n'], ['m', 'o', 'd', 'u', 'l', 'e'], ['g', 'a', 't', 'e'], ['p', 'a', 'r', 't'], ['r', 'e', 'g'], ['e', 'd', 'g', 'e'], ['o', 'u', 't'], ['s', 'e', 't', 'u', 'p'], ['h', 'o', 'l', 'd'], ['s', 't', 'a', 'r', 't']]
theorem splT_ofR {S : Char} {s : Cs} {l : List Cs} {Q : List Cs → Prop} {X : Ex → Prop} (hS : S.toNat < 256) (hl : s.length ≤ 9000000) (e : splC S [] s = l) (k : Q l) : splT s [S] Q X := ⟨S, rfl, hS, by unfold lim; omega, by rw [e]; exact k⟩
theorem ixST_at0 {t : Cs} {c : Char} {r : Cs} {Q : Cs → Prop} {X : Ex → Prop} (e : t = c :: r) (k : Q [c]) : ixST t 0 Q X := by subst e; exact ixST_0 k
/-! integers read -/
theorem remT_of {S : Char} {s d : Cs} {Q : Cs → Prop} {X : Ex → Prop} (hs : remC S s = d) (hl : s.length ≤ lim) (k : Q d) : remT s [S] Q X := ⟨S, rfl, hl, by rw [hs]; exact k⟩
theorem readD {n : Nat} {s : Cs} {i : Int} {Q : Int → Prop} {X : Ex → Prop} (h : n < 10 ^ 60) (hs : remC '-' s = dg n) (h0 : n = 0 → s = ['0']) (hi : intC s = some i) (hl : s.length ≤ 640) (k : Q i) : p_read_integer s Q X := by
  simp -implicitDefEqProofs [p_read_integer]
  have ln := dg_len (n := n) (k := 60) (by omega) h
  refine remT_of hs (lim_of (by omega)) ?_
  rw [if_neg (dg_ne n)]
  refine ⟨lim_of (by omega), ?_⟩
  rw [if_neg (by omega)]
  have go : forT (List.map (fun x => [x]) (dg n)) () (fun x413 s411 nx416 bk417 => inG true x413 ['0', '1', '2', '3', '4', '5', '6', '7', '8', '9'] (fun b420 => if b420 = true then X { c := "BadReport", d := none } else nx416 ()) X) fun s414 => List.length s ≤ 640 ∧ optT (intC s) Q X := by
    refine forT_all (fun x hx nx hn => ?_) ⟨hl, i, hi, k⟩
    obtain ⟨c, hc, rfl⟩ := List.mem_map.1 hx
    exact inGt_of (dg_mem hc) (by simpa using hn)
  by_cases hn : n = 0
  · have h00 := h0 hn
    subst hn
    rw [dg_zero]
    refine ixST_0 ?_
    rw [if_pos rfl, if_pos h00]
    exact go
  · obtain ⟨c, r, e, hc⟩ := dg_head (n := n) (by omega)
    have go2 := go
    rw [e] at go2
    rw [e]
    refine ixST_0 ?_
    rw [if_neg (by simpa using hc)]
    exact go2
theorem remC_ne {c : Char} {s : Cs} (h : c ∉ s) : remC c s = s := by
  cases s with
  | nil => rfl
  | cons d r => exact if_neg fun e => h (by simp [e])
theorem pow60 {i : Int} (h : i.natAbs < 10 ^ 60) : (strI i).length ≤ 61 := strI_lenK (by omega) h
theorem readI_spec {i : Int} {Q : Int → Prop} {X : Ex → Prop} (h : i.natAbs < 10 ^ 60) (k : Q i) : p_read_integer (strI i) Q X := by
  have hl := pow60 h
  have hi := intC_strI (i := i) (by omega)
  rcases strI_cases i with ⟨n, rfl, e⟩ | ⟨n, n1, rfl, e⟩
  · refine readD (n := n) (by simpa using h) ?_ (fun h0 => ?_) hi (by omega) k
    · rw [e]; exact remC_ne (dg_free (by decide))
    · subst h0; exact e.trans dg_zero
  · refine readD (n := n) (by simpa using h) ?_ (fun h0 => by omega) hi (by omega) k
    rw [e]; simp [remC]
/-! loops that make lists; places that are set -/
theorem forT_map {α β : Type} {B : α → List β → (List β → Prop) → (List β → Prop) → Prop} {K : List β → Prop} (f : α → β) : ∀ {xs : List α} {s0 : List β} (N : Nat), s0.length + xs.length ≤ N → (∀ x ∈ xs, ∀ (s : List β) (nx : List β → Prop), s.length < N → nx (s ++ [f x]) → B x s nx K) → K (s0 ++ xs.map f) → forT xs s0 B K
  | [], s0, _, _, _, h => by show K s0; simpa using h
  | x :: xs, s0, N, hN, st, h => st x (by simp) s0 _ (by simp at hN; omega) (forT_map f N (by simp at hN ⊢; omega) (fun y hy => st y (List.mem_cons_of_mem _ hy)) (by simpa using h))
theorem setT_of {α : Type} {xs : List α} {i : Int} {a : α} {K : List α → Prop} (j : Nat) (hj : j < xs.length) (hi : i = j) (k : K (xs.set j a)) : setT xs i a K := by
  subst hi
  exact ⟨j, ixW_nat _ _ hj, k⟩
theorem setT_pick {α : Type} {xs : List α} {i : Int} {a : α} {K : List α → Prop} (h0 : 0 ≤ i) (h1 : i < xs.length) (k : ∀ ys : List α, ys.length = xs.length → (∀ y ∈ ys, y ∈ xs ∨ y = a) → K ys) : setT xs i a K :=
  setT_of i.toNat (by omega) (by omega) (k _ (by simp) fun y hy => (List.mem_or_eq_of_mem_set hy))
/-- a comprehension that reads back what a function made -/
theorem lcT_map_of' {α β : Type} {e : β → PT α} (xs : List α) (f : α → β) {X : Ex → Prop} {Q : List α → Prop} (hl : (xs.map f).length ≤ lim) (h2 : ∀ x ∈ xs, ∀ Q : α → Prop, Q x → e (f x) Q (fun _ => False)) (h : Q xs) : lcT (xs.map f) (fun _ => pureT true) e Q X := by
  refine ⟨hl, ?_⟩
  clear hl
  induction xs generalizing Q with
  | nil => exact h
  | cons x xs ih =>
    simp only [List.map_cons, lcGoT, pureT_eq, if_true]
    first
      | exact h2 x (by simp) _ (ih (fun y hy => h2 y (List.mem_cons_of_mem _ hy)) h)
      | skip
/-! reports: their text -/
theorem drawT_big {m : Int} {Q : Int → Prop} {X : Ex → Prop} (h : 0 < m) (h2 : m ≤ 10 ^ 60) (k : ∀ v, 0 ≤ v → v < m → Q v) : drawT m Q X :=
  ⟨h, log_pow _ (Nat.lt_of_lt_of_le (show m.natAbs < 2 ^ 210 by omega) (Nat.pow_le_pow_right (by omega) (by omega))), k⟩
abbrev RowR := Cs × Option Int × Option Int × Option (Int × List Bool)
abbrev RepR := Cs × Int × List RowR
/-- a word that is no keyword -/
structure GK (w : Cs) : Prop where
  h : ∃ c r, w = c :: r ∧ c ∈ al26
  al : ∀ c ∈ w, c ∈ al37
  kw : w ∉ kws
def NmR (s : Cs) : Prop := ∃ ps : List Cs, ps ≠ [] ∧ (∀ p ∈ ps, GK p) ∧ s = joinT ['/'] ps
def mgT : Option Int → Cs
  | none => ['n', 'o', 'n', 'e']
  | some i => strI i
def bitsR (v : List Bool) : Cs := if v = [] then ['-'] else v.map fun b => if b = true then '1' else '0'
def tailR : Option (Int × List Bool) → List Cs
  | none => [['o', 'k']]
  | some (t, v) => [['l', 'o', 'o', 's', 'e'], ['a', 't'], strI t, ['f', 'o', 'r'], bitsR v]
def wordsR (r : RowR) : List Cs := ['r', 'e', 'g'] :: r.1 :: ['s', 'e', 't', 'u', 'p'] :: mgT r.2.1 :: ['h', 'o', 'l', 'd'] :: mgT r.2.2.1 :: tailR r.2.2.2
def rowR (r : RowR) : Cs := joinT [' '] (wordsR r)
def viol (R : RepR) : List RowR := R.2.2.filter fun r => r.2.2.2.isSome
def endR (R : RepR) : Cs := if viol R = [] then ['c', 'l', 'e', 'a', 'n'] else ['n', 'o', 't', ' ', 'c', 'l', 'e', 'a', 'n']
def hdR (R : RepR) : Cs := 'm' :: 'o' :: 'd' :: 'u' :: 'l' :: 'e' :: ' ' :: (R.1 ++ ' ' :: 'p' :: 'e' :: 'r' :: 'i' :: 'o' :: 'd' :: ' ' :: strI R.2.1)
def linesR (R : RepR) : List Cs := hdR R :: (R.2.2.map rowR ++ [endR R])
def repR (R : RepR) : Cs := ((linesR R).map (· ++ [Char.ofNat 10])).flatten
def GM (o : Option Int) : Prop := ∀ i, o = some i → i.natAbs < 10 ^ 60
structure GRow (sz : Nat) (r : RowR) : Prop where
  n : NmR r.1
  l : r.1.length ≤ 60
  s : GM r.2.1
  h : GM r.2.2.1
  v : ∀ t v, r.2.2.2 = some (t, v) → t.natAbs < 10 ^ 60 ∧ v.length = sz
structure GRep (R : RepR) : Prop where
  n : GK R.1
  l : R.1.length ≤ 14
  p : 1 ≤ R.2.1 ∧ R.2.1 ≤ 10 ^ 13
  rows : R.2.2.length ≤ 5
  nd : (R.2.2.map (·.1)).Nodup
  sz : ∃ n : Nat, n ≤ 9 ∧ ∀ r ∈ R.2.2, GRow n r
theorem NmR.al {s : Cs} (h : NmR s) : ∀ c ∈ s, c ∈ al37 ∨ c = '/' := by
  obtain ⟨ps, h1, h3, rfl⟩ := h
  cases ps with
  | nil => exact absurd rfl h1
  | cons p ps =>
    rw [joinT_cons]
    intro c hc
    rcases List.mem_append.1 hc with hc | hc
    · exact .inl ((h3 p (by simp)).al c hc)
    · obtain ⟨l, hl, hc⟩ := List.mem_flatten.1 hc
      obtain ⟨q, hq, rfl⟩ := List.mem_map.1 hl
      simp only [List.singleton_append, List.mem_cons] at hc
      rcases hc with rfl | hc
      · exact .inr rfl
      · exact .inl ((h3 q (by simp [hq])).al c hc)
theorem NmR.free {s : Cs} (h : NmR s) {c : Char} (h1 : c ∉ al37) (h2 : c ≠ '/') : c ∉ s := fun hc => (h.al c hc).elim h1 h2
theorem GK.free {s : Cs} (h : GK s) {c : Char} (h1 : c ∉ al37) : c ∉ s := fun hc => h1 (h.al c hc)
theorem GK.snoc {p : Cs} (h : GK p) : GK (p ++ ['_']) := by
  obtain ⟨c, r, e, hc⟩ := h.h
  refine ⟨⟨c, r ++ ['_'], by rw [e]; rfl, hc⟩, fun x hx => ?_, fun hk => ?_⟩
  · rcases List.mem_append.1 hx with hx | hx
    · exact h.al x hx
    · have : x = '_' := by simpa using hx
      subst this; decide
  · have : ∀ w ∈ kws, '_' ∉ w := by decide
    exact this _ hk (by simp)
theorem NmR.snoc {s : Cs} (h : NmR s) : NmR (s ++ ['_']) := by
  obtain ⟨ps, h1, h3, rfl⟩ := h
  induction ps with
  | nil => exact absurd rfl h1
  | cons p ps ih =>
    cases ps with
    | nil => exact ⟨[p ++ ['_']], by simp, fun q hq => by
        have : q = p ++ ['_'] := by simpa using hq
        subst this
        exact (h3 p (by simp)).snoc, rfl⟩
    | cons q r =>
      obtain ⟨qs, g1, g2, g3⟩ := ih (by simp) fun x hx => h3 x (List.mem_cons_of_mem _ hx)
      cases qs with
      | nil => exact absurd rfl g1
      | cons a b =>
        refine ⟨p :: a :: b, by simp, fun x hx => ?_, ?_⟩
        · rcases List.mem_cons.1 hx with rfl | hx
          · exact h3 x (by simp)
          · exact g2 x hx
        · show (p ++ ('/' :: joinT ['/'] (q :: r))) ++ ['_'] = p ++ ('/' :: joinT ['/'] (a :: b))
          rw [← g3]; simp
theorem mgT_len {o : Option Int} (h : GM o) : (mgT o).length ≤ 61 := by
  cases o with
  | none => decide
  | some i => exact strI_lenK (by omega) (h i rfl)
theorem mgT_free {o : Option Int} {c : Char} (h : c ∉ dgs) (h2 : c ≠ '-') (h3 : c ∉ (['n', 'o', 'n', 'e'] : Cs)) : c ∉ mgT o := by
  cases o with
  | none => exact h3
  | some i => exact strI_free h h2
theorem bitsR_len {v : List Bool} : (bitsR v).length ≤ v.length + 1 := by
  unfold bitsR; split <;> simp
theorem bitsR_mem {v : List Bool} {c : Char} (h : c ∈ bitsR v) : c = '-' ∨ c = '0' ∨ c = '1' := by
  unfold bitsR at h
  split at h
  · exact .inl (by simpa using h)
  · obtain ⟨b, _, rfl⟩ := List.mem_map.1 h
    cases b
    · exact .inr (.inl rfl)
    · exact .inr (.inr rfl)
theorem words_free {n : Nat} {r : RowR} (g : GRow n r) {c : Char} (hc : c = ' ' ∨ c = Char.ofNat 10) : ∀ p ∈ wordsR r, c ∉ p := by
  have m1 : ∀ o : Option Int, c ∉ mgT o := fun o => by rcases hc with rfl | rfl <;> exact mgT_free (by decide) (by decide) (by decide)
  have hn : c ∉ r.1 := by rcases hc with rfl | rfl <;> exact g.n.free (by decide) (by decide)
  have ht : ∀ p ∈ tailR r.2.2.2, c ∉ p := by
    cases r.2.2.2 with
    | none => rcases hc with rfl | rfl <;> simp only [tailR] <;> decide
    | some q =>
      obtain ⟨t, v⟩ := q
      intro p hp
      simp only [tailR, List.mem_cons, List.not_mem_nil, or_false] at hp
      rcases hp with rfl | rfl | rfl | rfl | rfl
      · rcases hc with rfl | rfl <;> decide
      · rcases hc with rfl | rfl <;> decide
      · rcases hc with rfl | rfl <;> exact strI_free (by decide) (by decide)
      · rcases hc with rfl | rfl <;> decide
      · intro h
        rcases bitsR_mem h with e | e | e <;> rcases hc with q | q <;> rw [q] at e <;> revert e <;> decide
  intro p hp
  simp only [wordsR, List.mem_cons] at hp
  rcases hp with rfl | rfl | rfl | rfl | rfl | rfl | hp
  · rcases hc with rfl | rfl <;> decide
  · exact hn
  · rcases hc with rfl | rfl <;> decide
  · exact m1 _
  · rcases hc with rfl | rfl <;> decide
  · exact m1 _
  · exact ht p hp
theorem rowR_free {n : Nat} {r : RowR} (g : GRow n r) : Char.ofNat 10 ∉ rowR r := by
  have h := words_free g (c := Char.ofNat 10) (.inr rfl)
  unfold rowR
  cases e : wordsR r with
  | nil => simp [joinT]
  | cons p ps =>
    rw [e] at h
    rw [joinT_cons]
    simp only [List.mem_append, not_or, List.mem_flatten, List.mem_map]
    refine ⟨h p (by simp), ?_⟩
    rintro ⟨l, ⟨q, hq, rfl⟩, hc⟩
    simp only [List.singleton_append, List.mem_cons] at hc
    rcases hc with hc | hc
    · exact absurd hc (by decide)
    · exact h q (by simp [hq]) hc
theorem row_splitR {n : Nat} {r : RowR} (g : GRow n r) : splC ' ' [] (rowR r) = wordsR r := splC_join (by simp [wordsR]) (words_free g (.inl rfl))
theorem rowR_none {a : Cs} {b c : Option Int} : rowR (a, b, c, none) = 'r' :: 'e' :: 'g' :: ' ' :: (a ++ ' ' :: 's' :: 'e' :: 't' :: 'u' :: 'p' :: ' ' :: (mgT b ++ ' ' :: 'h' :: 'o' :: 'l' :: 'd' :: ' ' :: (mgT c ++ [' ', 'o', 'k']))) := by
  simp [rowR, wordsR, tailR, joinT]
theorem rowR_some {a : Cs} {b c : Option Int} {t : Int} {v : List Bool} : rowR (a, b, c, some (t, v)) = 'r' :: 'e' :: 'g' :: ' ' :: (a ++ ' ' :: 's' :: 'e' :: 't' :: 'u' :: 'p' :: ' ' :: (mgT b ++ ' ' :: 'h' :: 'o' :: 'l' :: 'd' :: ' ' :: (mgT c ++ ' ' :: 'l' :: 'o' :: 'o' :: 's' :: 'e' :: ' ' :: 'a' :: 't' :: ' ' :: (strI t ++ ' ' :: 'f' :: 'o' :: 'r' :: ' ' :: bitsR v)))) := by
  simp [rowR, wordsR, tailR, joinT]
theorem rowR_len {n : Nat} {r : RowR} (g : GRow n r) (hn : n ≤ 9) : (rowR r).length ≤ 400 := by
  obtain ⟨a, b, c, d⟩ := r
  have h1 := g.l
  have h2 := mgT_len g.s
  have h3 := mgT_len g.h
  simp only at h1 h2 h3
  cases d with
  | none => rw [rowR_none]; simp; omega
  | some q =>
    obtain ⟨t, v⟩ := q
    obtain ⟨g1, g2⟩ := g.v t v rfl
    have h4 : (strI t).length ≤ 61 := strI_lenK (by omega) g1
    have h5 := bitsR_len (v := v)
    rw [rowR_some]; simp; omega
theorem endR_len (R : RepR) : (endR R).length ≤ 9 := by unfold endR; split <;> decide
theorem endR_free (R : RepR) : Char.ofNat 10 ∉ endR R := by unfold endR; split <;> decide
theorem hdR_len {R : RepR} (g : GRep R) : (hdR R).length ≤ 100 := by
  have h1 := g.l
  have h2 : (strI R.2.1).length ≤ 51 := strI_lenK (k := 50) (by omega) (by have := g.p; omega)
  simp [hdR]; omega
theorem hdR_free {R : RepR} (g : GRep R) : Char.ofNat 10 ∉ hdR R := by
  have h1 : Char.ofNat 10 ∉ R.1 := g.n.free (by decide)
  have h2 : Char.ofNat 10 ∉ strI R.2.1 := strI_free (by decide) (by decide)
  simp only [hdR, List.mem_cons, List.mem_append, not_or]
  exact ⟨by decide, by decide, by decide, by decide, by decide, by decide, by decide, h1, by decide, by decide, by decide, by decide, by decide, by decide, by decide, by decide, h2⟩
theorem hdR_split {R : RepR} (g : GRep R) : splC ' ' [] (hdR R) = [['m', 'o', 'd', 'u', 'l', 'e'], R.1, ['p', 'e', 'r', 'i', 'o', 'd'], strI R.2.1] := by
  have h1 : ' ' ∉ R.1 := g.n.free (by decide)
  have h2 : ' ' ∉ strI R.2.1 := strI_free (by decide) (by decide)
  have e : hdR R = ['m', 'o', 'd', 'u', 'l', 'e'] ++ ' ' :: (R.1 ++ ' ' :: (['p', 'e', 'r', 'i', 'o', 'd'] ++ ' ' :: strI R.2.1)) := by simp [hdR]
  rw [e, splC_part (by decide), splC_part h1, splC_part (by decide), splC_last h2]
  rfl
theorem line_len {R : RepR} (g : GRep R) : ∀ l ∈ linesR R, l.length ≤ 400 := by
  obtain ⟨n, hn, hr⟩ := g.sz
  intro l hl
  rcases List.mem_cons.1 hl with rfl | hl
  · have := hdR_len g; omega
  · rcases List.mem_append.1 hl with hl | hl
    · obtain ⟨r, hm, rfl⟩ := List.mem_map.1 hl
      exact rowR_len (hr r hm) hn
    · have : l = endR R := by simpa using hl
      subst this
      have := endR_len R; omega
theorem line_free {R : RepR} (g : GRep R) : ∀ l ∈ linesR R, Char.ofNat 10 ∉ l := by
  obtain ⟨n, hn, hr⟩ := g.sz
  intro l hl
  rcases List.mem_cons.1 hl with rfl | hl
  · exact hdR_free g
  · rcases List.mem_append.1 hl with hl | hl
    · obtain ⟨r, hm, rfl⟩ := List.mem_map.1 hl
      exact rowR_free (hr r hm)
    · have : l = endR R := by simpa using hl
      subst this
      exact endR_free R
theorem repR_len {R : RepR} (g : GRep R) : (repR R).length ≤ 5000 := by
  have rl := g.rows
  have h := flat_len (fun s : Cs => s ++ [Char.ofNat 10]) 401 (linesR R) fun l hl => by
    have := line_len g l hl
    simp; omega
  have h2 : (linesR R).length * 401 ≤ 7 * 401 := Nat.mul_le_mul_right _ (by simp [linesR]; omega)
  show (List.map (fun s : Cs => s ++ [Char.ofNat 10]) (linesR R)).flatten.length ≤ _
  omega
/-! written -/
theorem clean_spec {R : RepR} {Q : Bool → Prop} {X : Ex → Prop} (h : R.2.2.length ≤ 10) (k : Q (decide (viol R = []))) : p_is_clean_report R Q X := by
  simp -implicitDefEqProofs [p_is_clean_report]
  refine lcT_of (fun r : RowR => r.2.2.2.isSome) (fun r => r) (lim_of (by omega)) (fun x hx Q q => q) (fun x hx _ Q q => q) ?_
  rw [List.map_id']
  exact k
theorem showM_spec {o : Option Int} {Q : Cs → Prop} {X : Ex → Prop} (h : GM o) (k : Q (mgT o)) : p_show_margin o Q X := by
  simp -implicitDefEqProofs [p_show_margin]
  cases o with
  | none => exact k
  | some i => rw [if_neg (by simp)]; exact ⟨i, rfl, log_big (h i rfl), k⟩
theorem shownL_spec {o : Option Int} {Q : Cs → Prop} {X : Ex → Prop} (h : GM o) (k : Q (mgT o)) : p_Lshown o Q X := by
  simp -implicitDefEqProofs [p_Lshown]
  cases o with
  | none => exact k
  | some i => rw [if_neg (by simp)]; exact ⟨i, rfl, log_big (h i rfl), k⟩
theorem flatC {α : Type} (f : α → Char) : ∀ v : List α, (v.map fun b => [f b]).flatten = v.map f
  | [] => rfl
  | b :: v => by simp [flatC f v]
theorem showB_spec {v : List Bool} {Q : Cs → Prop} {X : Ex → Prop} (h : v.length ≤ 9) (k : Q (bitsR v)) : p_show_bits v Q X := by
  simp -implicitDefEqProofs [p_show_bits]
  unfold bitsR at k
  split
  · rename_i e; rw [if_pos e] at k; exact k
  · rename_i e
    rw [if_neg e] at k
    refine lcT_map_of (fun b => [if b = true then '1' else '0']) (lim_of (by omega)) (fun x hx Q q => by cases x <;> exact q) ?_
    rw [joinT_nil, flatC, List.map_map]
    refine ⟨lim_of ?_, k⟩
    have : (List.map (List.length ∘ fun b : Bool => [if b = true then '1' else '0']) v).sum = v.length := by
      clear k e h
      induction v with
      | nil => rfl
      | cons b v ih => simp at ih ⊢; omega
    omega
/-! reports written -/
theorem repW_spec {R : RepR} {Q : Cs → Prop} {X : Ex → Prop} (g : GRep R) (k : Q (repR R)) : p_write_report R Q X := by
  simp -implicitDefEqProofs [p_write_report]
  have nl := g.l
  have pl : (strI R.2.1).length ≤ 51 := strI_lenK (k := 50) (by omega) (by have := g.p; omega)
  have rl := g.rows
  obtain ⟨n, hn, hr⟩ := g.sz
  refine ⟨lim_of (by omega), lim_of (by omega), lim_of (by omega), lim_of (by omega), log_big (by have := g.p; omega), lim_of (by omega), ?_⟩
  refine forT_map rowR 1000 (by simp; omega) (fun r hm s nx hs hx => ?_) ?_
  · have gr := hr r hm
    obtain ⟨a, b, c, d⟩ := r
    have h1 := gr.l
    have h2 := mgT_len gr.s
    have h3 := mgT_len gr.h
    dsimp only at h1 h2 h3 ⊢
    refine ⟨lim_of (by omega), lim_of (by omega), lim_of (by omega), lim_of (by omega), showM_spec gr.s ⟨lim_of (by omega), lim_of (by omega), lim_of (by omega), showM_spec gr.h ⟨lim_of (by omega), lim_of (by omega), ?_⟩⟩⟩
    cases d with
    | none =>
      rw [if_pos rfl]
      rw [rowR_none] at hx
      exact ⟨lim_of (by omega), lim_lt (by omega), hx⟩
    | some q =>
      obtain ⟨t, v⟩ := q
      obtain ⟨g1, g2⟩ := gr.v t v rfl
      have h4 : (strI t).length ≤ 61 := strI_lenK (by omega) g1
      have h5 := bitsR_len (v := v)
      rw [if_neg (by simp)]
      rw [rowR_some] at hx
      refine ⟨lim_of (by omega), lim_of (by omega), (t, v), rfl, ?_⟩
      dsimp only
      refine ⟨log_big g1, lim_of (by omega), lim_of (by omega), (t, v), rfl, ?_⟩
      dsimp only
      exact showB_spec (by omega) ⟨lim_of (by omega), lim_of (by omega), lim_lt (by omega), hx⟩
  · refine clean_spec (by omega) ?_
    have fin : ([hdR R] ++ R.2.2.map rowR).length < lim ∧ lcT (([hdR R] ++ R.2.2.map rowR) ++ [endR R]) (fun x872 => pureT true) (fun a873 => grdT (a873.length + 1 ≤ lim) (a873 ++ [Char.ofNat 10])) (fun a => (List.map List.length a).sum ≤ lim ∧ Q (joinT [] a)) X := by
      refine ⟨lim_lt (by simp; omega), ?_⟩
      have el : ([hdR R] ++ R.2.2.map rowR) ++ [endR R] = linesR R := rfl
      rw [el]
      refine lcT_map_of (fun s => s ++ [Char.ofNat 10]) (lim_of (by simp [linesR]; omega)) (fun s hs Q q => ⟨lim_of (by have := line_len g s hs; omega), q⟩) ?_
      rw [joinT_nil, ← List.length_flatten]
      have := repR_len g
      exact ⟨lim_of (by show (repR R).length ≤ _; omega), k⟩
    unfold endR at fin
    by_cases e : viol R = []
    · rw [if_pos e] at fin
      rw [if_pos (by simpa using e)]
      exact fin
    · rw [if_neg e] at fin
      rw [if_neg (by simpa using e)]
      exact fin
theorem bits_join {v : List Bool} : (v.map fun b => if b = true then (['1'] : Cs) else ['0']).flatten = v.map fun b => if b = true then '1' else '0' := by
  induction v with
  | nil => rfl
  | cons b v ih => cases b <;> simp [ih]
theorem repT_spec {R : RepR} {Q : Cs → Prop} {X : Ex → Prop} (g : GRep R) (k : Q (repR R)) : p_Ltext R Q X := by
  simp -implicitDefEqProofs [p_Ltext]
  have nl := g.l
  have pl : (strI R.2.1).length ≤ 51 := strI_lenK (k := 50) (by omega) (by have := g.p; omega)
  have rl := g.rows
  obtain ⟨n, hn, hr⟩ := g.sz
  refine ⟨lim_of (by omega), lim_of (by omega), log_big (by have := g.p; omega), lim_of (by omega), lim_of (by omega), ?_⟩
  refine forT_inv (fun i (s : Cs) => s = hdR R ++ [Char.ofNat 10] ++ (((R.2.2.take i).map rowR).map (· ++ [Char.ofNat 10])).flatten ∧ s.length ≤ 300 + i * 401) (by simp [hdR]; omega) (fun i hi s hs nx hnx => ?_) fun s hs => ?_
  · obtain ⟨hs, sl⟩ := hs
    have sl2 : i * 401 ≤ 5 * 401 := Nat.mul_le_mul_right _ (by omega)
    have gr := hr R.2.2[i] (List.getElem_mem _)
    have rlen := rowR_len gr hn
    have fin : nx (s ++ (rowR R.2.2[i] ++ [Char.ofNat 10])) := hnx _ ⟨by rw [List.take_succ_eq_append_getElem hi, hs]; simp only [List.map_append, List.map_cons, List.map_nil, List.flatten_append, List.flatten_cons, List.flatten_nil, List.append_nil, List.append_assoc], by simp [Nat.add_mul]; omega⟩
    revert fin gr
    generalize R.2.2[i] = r
    intro gr fin
    obtain ⟨a, b, c, d⟩ := r
    have h1 := gr.l
    have h2 := mgT_len gr.s
    have h3 := mgT_len gr.h
    dsimp only at h1 h2 h3 ⊢
    refine ⟨lim_of (by omega), lim_of (by omega), lim_of (by omega), shownL_spec gr.s ⟨lim_of (by omega), lim_of (by omega), shownL_spec gr.h ⟨lim_of (by omega), ?_⟩⟩⟩
    cases d with
    | none =>
      rw [if_pos rfl]
      rw [rowR_none] at fin
      exact ⟨lim_of (by omega), by simpa using fin⟩
    | some q =>
      obtain ⟨t, v⟩ := q
      obtain ⟨g1, g2⟩ := gr.v t v rfl
      have g2' : v.length ≤ 9 := by omega
      have h4 : (strI t).length ≤ 61 := strI_lenK (by omega) g1
      have h5 := bitsR_len (v := v)
      rw [if_neg (by simp)]
      rw [rowR_some] at fin
      refine ⟨(t, v), rfl, ?_⟩
      dsimp only
      refine lcT_map_of (fun b => if b = true then ['1'] else ['0']) (lim_of (by omega)) (fun x hx Q q => ?_) ?_
      · cases x
        · exact ixT_of 0 (by decide) rfl q
        · exact ixT_of 1 (by decide) rfl q
      · rw [joinT_nil, ← List.length_flatten, bits_join]
        refine ⟨lim_of (by simp; omega), ?_⟩
        by_cases e : v = []
        · have eb : bitsR v = ['-'] := by unfold bitsR; rw [if_pos e]
          rw [eb] at fin
          rw [if_pos (by simp [e])]
          refine ⟨lim_of (by omega), (t, v), rfl, ?_⟩
          dsimp only
          refine ⟨log_big g1, lim_of (by omega), lim_of (by omega), lim_of (by omega), lim_of (by omega), ?_⟩
          simpa using fin
        · have eb : bitsR v = v.map fun b => if b = true then '1' else '0' := by unfold bitsR; rw [if_neg e]
          rw [eb] at fin
          rw [if_neg (by simpa using e)]
          refine ⟨lim_of (by omega), (t, v), rfl, ?_⟩
          dsimp only
          refine ⟨log_big g1, lim_of (by omega), lim_of (by omega), lim_of (by simp; omega), lim_of (by simp; omega), ?_⟩
          simpa using fin
  · obtain ⟨hs, sl⟩ := hs
    rw [List.take_length] at hs
    refine lcT_of (fun r : RowR => r.2.2.2.isSome) (fun r => r) (lim_of (by omega)) (fun x hx Q q => q) (fun x hx _ Q q => q) ?_
    rw [List.map_id']
    have sl2 : R.2.2.length * 401 ≤ 5 * 401 := Nat.mul_le_mul_right _ (by omega)
    have er : repR R = s ++ (endR R ++ [Char.ofNat 10]) := by rw [hs]; simp [repR, linesR]
    rw [er] at k
    unfold endR at k
    have ev : List.filter (fun r : RowR => r.2.2.2.isSome) R.2.2 = viol R := rfl
    rw [ev]
    by_cases e : viol R = []
    · rw [if_pos e] at k
      rw [if_pos e]
      exact ixT_of 1 (by decide) rfl ⟨lim_of (by simp; omega), k⟩
    · rw [if_neg e] at k
      rw [if_neg e]
      exact ixT_of 0 (by decide) rfl ⟨lim_of (by simp; omega), k⟩
/-! reports read -/
theorem readName_spec {w : Cs} {Q : Cs → Prop} {X : Ex → Prop} (g : GK w) (k : Q w) : p_read_name w Q X := by
  simp -implicitDefEqProofs [p_read_name, p_is_name, p_is_word]
  refine forT_all (fun x hx nx hn => ?_) ?_
  · obtain ⟨c, hc, rfl⟩ := List.mem_map.1 hx
    exact inGt_of (g.al c hc) (by simpa using hn)
  · obtain ⟨c, r, e, hc⟩ := g.h
    rw [if_neg (by rw [e]; simp)]
    refine ixST_at0 e (inGf_of hc ?_)
    have hk := g.kw
    simp only [List.mem_cons, List.not_mem_nil, or_false, not_or] at hk
    rw [if_pos rfl, if_pos hk]
    exact k
theorem readM_spec {o : Option Int} {Q : Option Int → Prop} {X : Ex → Prop} (h : GM o) (k : Q o) : p_read_margin (mgT o) Q X := by
  simp -implicitDefEqProofs [p_read_margin]
  cases o with
  | none => exact k
  | some i =>
    rw [if_neg (fun e => by
      have : 'n' ∉ strI i := strI_free (by decide) (by decide)
      exact this (by rw [show strI i = ['n', 'o', 'n', 'e'] from e]; simp))]
    exact readI_spec (h i rfl) k
theorem readB_spec {v : List Bool} {Q : List Bool → Prop} {X : Ex → Prop} (h : v.length ≤ 9) (k : Q v) : p_read_bits (bitsR v) Q X := by
  simp -implicitDefEqProofs [p_read_bits]
  by_cases e : v = []
  · have eb : bitsR v = ['-'] := by unfold bitsR; rw [if_pos e]
    rw [eb, if_pos rfl]
    subst e; exact k
  · have eb : bitsR v = v.map fun b => if b = true then '1' else '0' := by unfold bitsR; rw [if_neg e]
    have hm : '-' ∉ bitsR v := by
      rw [eb]
      intro hh
      obtain ⟨b, _, hb⟩ := List.mem_map.1 hh
      cases b <;> revert hb <;> decide
    rw [if_neg fun q => hm (by rw [q]; simp)]
    refine forT_all (fun x hx nx hn => ?_) ?_
    · obtain ⟨c, hc, rfl⟩ := List.mem_map.1 hx
      refine inGt_of ?_ (by simpa using hn)
      rcases bitsR_mem hc with q | q | q
      · exact absurd (q ▸ hc) hm
      · subst q; decide
      · subst q; decide
    · rw [if_neg (by rw [eb]; simpa using e)]
      refine ⟨lim_of (by have := bitsR_len (v := v); omega), ?_⟩
      have : List.map ((fun x => decide (x = ['1'])) ∘ fun x => [x]) (bitsR v) = v := by
        rw [eb, List.map_map]
        clear k e h eb hm
        induction v with
        | nil => rfl
        | cons b v ih => rw [List.map_cons, ih]; cases b <;> rfl
      rw [this]
      exact k
theorem readRow_spec {n : Nat} {r : RowR} {Q : RowR → Prop} {X : Ex → Prop} (g : GRow n r) (hn : n ≤ 9) (k : Q r) : p_read_row (rowR r) Q X := by
  simp -implicitDefEqProofs [p_read_row]
  have hl := rowR_len g hn
  refine splT_ofR (by decide) (by omega) (row_splitR g) ?_
  have nm : ∀ K : Unit → Prop, K () → splT r.1 ['/'] (fun l669 => forT l669 () (fun x590 s588 nx593 bk594 => p_read_name x590 (fun a598 => nx593 ()) X) fun s591 => K s591) X := fun K hK => by
    have rl := g.l
    obtain ⟨ps, h1, h3, e⟩ := g.n
    rw [e] at rl ⊢
    refine splT_ofR (by decide) (by omega) (splC_join h1 fun p hp => (h3 p hp).free (by decide)) ?_
    exact forT_all (fun p hp nx hn => readName_spec (h3 p hp) hn) hK
  obtain ⟨a, b, c, d⟩ := r
  cases d with
  | none =>
    rw [if_neg (by simp [wordsR, tailR])]
    refine ixT_of 0 (by simp [wordsR, tailR]) rfl (ixT_of 2 (by simp [wordsR, tailR]) rfl (ixT_of 4 (by simp [wordsR, tailR]) rfl ?_))
    rw [if_neg (by simp [wordsR])]
    refine ixT_of 1 (by simp [wordsR, tailR]) rfl (nm _ ?_)
    rw [if_neg (by simp [wordsR, tailR])]
    refine ixT_of 6 (by simp [wordsR, tailR]) rfl ?_
    rw [if_pos (by simp [wordsR, tailR])]
    exact ixT_of 1 (by simp [wordsR, tailR]) rfl (ixT_of 3 (by simp [wordsR, tailR]) rfl (readM_spec g.s (ixT_of 5 (by simp [wordsR, tailR]) rfl (readM_spec g.h k))))
  | some q =>
    obtain ⟨t, v⟩ := q
    obtain ⟨g1, g2⟩ := g.v t v rfl
    rw [if_neg (by simp [wordsR, tailR])]
    refine ixT_of 0 (by simp [wordsR, tailR]) rfl (ixT_of 2 (by simp [wordsR, tailR]) rfl (ixT_of 4 (by simp [wordsR, tailR]) rfl ?_))
    rw [if_neg (by simp [wordsR])]
    refine ixT_of 1 (by simp [wordsR, tailR]) rfl (nm _ ?_)
    rw [if_pos (by simp [wordsR, tailR])]
    refine ixT_of 6 (by simp [wordsR, tailR]) rfl (ixT_of 7 (by simp [wordsR, tailR]) rfl (ixT_of 9 (by simp [wordsR, tailR]) rfl ?_))
    rw [if_pos (by simp [wordsR, tailR])]
    refine ixT_of 8 (by simp [wordsR, tailR]) rfl (readI_spec (i := t) g1 (ixT_of 10 (by simp [wordsR, tailR]) rfl (readB_spec (v := v) (by omega) ?_)))
    exact ixT_of 1 (by simp [wordsR, tailR]) rfl (ixT_of 3 (by simp [wordsR, tailR]) rfl (readM_spec g.s (ixT_of 5 (by simp [wordsR, tailR]) rfl (readM_spec g.h k))))
theorem cut_mid3 {α : Type} (a b c : α) (l : List α) : cutT (a :: (l ++ [b, c])) (some 1) (some (-2)) = l := by
  have h1 : sIxN (a :: (l ++ [b, c])).length 0 (some 1) = 1 := by simp [sIxN]
  have h2 : sIxN (a :: (l ++ [b, c])).length (a :: (l ++ [b, c])).length (some (-2)) = l.length + 1 := by simp [sIxN]; omega
  unfold cutT
  rw [h1, h2]
  simp
theorem ixT_last2 {α : Type} {pre : List α} {a b : α} {Q : α → Prop} {X : Ex → Prop} (k : Q a) : ixT (pre ++ [a, b]) (-2) Q X := by
  refine ⟨pre.length, a, ?_, by simp, k⟩
  simp [ixW]; omega
theorem uSort_one {l : List Int} {c : Int} (h : ∀ x ∈ l, x = c) : (uSort l).length ≤ 1 := by
  have h1 := uSort_lt l
  have h2 : ∀ x ∈ uSort l, x = c := fun x hx => h x ((uSort_mem x l).1 hx)
  cases e : uSort l with
  | nil => simp
  | cons a r =>
    cases r with
    | nil => simp
    | cons b q =>
      rw [e] at h1 h2
      have := (List.pairwise_cons.1 h1).1 b (by simp)
      have := h2 a (by simp)
      have := h2 b (by simp)
      omega
theorem repRd_spec {R : RepR} {Q : RepR → Prop} {X : Ex → Prop} (g : GRep R) (k : Q R) : p_read_report (repR R) Q X := by
  simp -implicitDefEqProofs [p_read_report]
  have tl := repR_len g
  have hl := hdR_len g
  have rl := g.rows
  obtain ⟨n, hn, hr⟩ := g.sz
  have el : linesR R ++ [[]] = hdR R :: (R.2.2.map rowR ++ [endR R, []]) := by simp [linesR]
  refine splT_ofR (l := hdR R :: (R.2.2.map rowR ++ [endR R, []])) (by decide) (by omega) (by rw [← el]; exact splC_lines (line_free g)) ?_
  refine ixT_of 0 (by simp) rfl ?_
  refine splT_ofR (by decide) (by show (hdR R).length ≤ _; omega) (hdR_split g) ?_
  rw [if_neg (by simp; omega)]
  have e1 : hdR R :: (R.2.2.map rowR ++ [endR R, []]) = (hdR R :: (R.2.2.map rowR ++ [endR R])) ++ [[]] := by simp
  have e2 : hdR R :: (R.2.2.map rowR ++ [endR R, []]) = (hdR R :: R.2.2.map rowR) ++ [endR R, []] := by simp
  have last : ∀ K : Cs → Prop, K [] → ixT (hdR R :: (R.2.2.map rowR ++ [endR R, []])) (-1) K X := fun K hK => by rw [e1]; exact ixT_last hK
  have last2 : ∀ K : Cs → Prop, K (endR R) → ixT (hdR R :: (R.2.2.map rowR ++ [endR R, []])) (-2) K X := fun K hK => by rw [e2]; exact ixT_last2 hK
  refine last _ ?_
  rw [if_pos rfl, if_pos (by rfl)]
  refine ixT_of 0 (by simp) rfl (ixT_of 2 (by simp) rfl ?_)
  rw [if_neg (by simp)]
  refine ixT_of 3 (by simp) rfl (readI_spec (i := R.2.1) (by have := g.p; omega) ?_)
  rw [cut_mid3]
  have rows : ∀ K : List RowR → Prop, K R.2.2 → lcT (R.2.2.map rowR) (fun x732 => pureT true) (fun x732 => p_read_row x732) K X := fun K hK => by
    refine lcT_map_of' R.2.2 rowR (lim_of (by simp; omega)) (fun r hm Q q => readRow_spec (hr r hm) hn q) hK
  refine rows _ ?_
  refine ixT_of 1 (by simp) rfl (readName_spec g.n ?_)
  refine lcT_of (fun r : RowR => r.2.2.2.isSome) (fun r => match r.2.2.2 with | some q => (q.2.length : Int) | none => 0) (lim_of (by omega)) (fun x hx Q q => q) (fun x hx hp Q q => ?_) ?_
  · cases e : x.2.2.2 with
    | none => rw [e] at hp; cases hp
    | some z =>
      rw [e] at q
      exact ⟨z, rfl, q⟩
  · have hu : ∀ y ∈ List.map (fun r : RowR => match r.2.2.2 with | some q => (q.2.length : Int) | none => 0) (List.filter (fun r : RowR => r.2.2.2.isSome) R.2.2), y = (n : Int) := fun y hy => by
      obtain ⟨r, hm, rfl⟩ := List.mem_map.1 hy
      obtain ⟨hm, hs⟩ := List.mem_filter.1 hm
      cases e : r.2.2.2 with
      | none => rw [e] at hs; cases hs
      | some z =>
        have := ((hr r hm).v z.1 z.2 (by rw [e])).2
        simp only
        omega
    have hone := uSort_one hu
    have fl := List.length_filter_le (fun r : RowR => r.2.2.2.isSome) R.2.2
    refine ⟨by simp; omega, ?_⟩
    rw [if_neg (by have := g.p; omega), if_neg (by omega)]
    refine ⟨lim_of (by omega), by omega, ?_⟩
    have hc : ¬ cntT (List.map Prod.fst R.2.2) < R.2.2.length := fun h => by
      have := (cntT_lt (List.map Prod.fst R.2.2)).1 (by simpa using h)
      exact this g.nd
    rw [if_neg (by simpa using hc)]
    refine last2 _ (clean_spec (R := (R.1, R.2.1, R.2.2)) (by show R.2.2.length ≤ 10; omega) ?_)
    have ev : viol (R.1, R.2.1, R.2.2) = viol R := rfl
    rw [ev]
    unfold endR
    by_cases e : viol R = []
    · rw [if_pos (by simpa using e), if_pos (by rw [if_pos e])]
      exact k
    · rw [if_neg (by simpa using e), if_pos (by rw [if_neg e])]
      exact k
/-! words, of which characters -/
theorem wordB_spec {Q : Cs → Prop} {X : Ex → Prop} (k : ∀ w : Cs, GW w → w ∉ kws → Q w) : p_Lword Q X := by
  simp -implicitDefEqProofs [p_Lword]
  refine drawT_of (by omega) (by omega) fun a a0 a1 => ixST_in a0 (by simpa using a1) (by omega) fun c hc => drawT_of (by omega) (by omega) fun b b0 b1 => ixT_pick b0 (by simpa using b1) fun n hn => ?_
  have hn : 0 ≤ n ∧ n ≤ 12 := by
    have : ∀ n ∈ ([0, 0, 1, 1, 2, 3, 5, 12] : List Int), 0 ≤ n ∧ n ≤ 12 := by decide
    exact this n hn
  refine ⟨inR_of _ (by omega) (by omega), ?_⟩
  have hc : c ∈ al26 := hc
  refine forT_inv (fun i (s : Cs) => s.length = i + 1 ∧ (∃ r, s = c :: r) ∧ ∀ x ∈ s, x ∈ al37) ⟨rfl, ⟨[], rfl⟩, fun x hx => by simp at hx; subst hx; exact al_sub hc⟩ (fun i hi s hs nx hnx => ?_) (fun s hs => ?_)
  · rw [rangeT_len] at hi
    obtain ⟨hs, ⟨r, hr⟩, ha⟩ := hs
    refine drawT_of (by omega) (by omega) fun d d0 d1 => ixST_in d0 (by simpa using d1) (by omega) fun e he => ⟨lim_of (by simp; omega), hnx _ ⟨by simp [hs], ⟨r ++ [e], by simp [hr]⟩, fun x hx => ?_⟩⟩
    rcases List.mem_append.1 hx with hx | hx
    · exact ha x hx
    · have : x = e := by simpa using hx
      subst this; exact he
  · rw [rangeT_len] at hs
    obtain ⟨hs, ⟨r, hr⟩, ha⟩ := hs
    split
    · refine ⟨lim_of (by omega), k _ ⟨⟨c, r ++ ['_'], by simp [hr], hc⟩, fun x hx => ?_, by simp; omega⟩ fun hk => ?_⟩
      rotate_left
      · have : ∀ w ∈ kws, '_' ∉ w := by decide
        exact this _ hk (by simp)
      rcases List.mem_append.1 hx with hx | hx
      · exact ha x hx
      · have : x = '_' := by simpa using hx
        subst this; decide
    · rename_i hk
      exact k _ ⟨⟨c, r, hr, hc⟩, ha, by omega⟩ (by simpa using hk)
/-! circuits: the types -/
abbrev GateT := Cs × List Bool × List Cs × List (Int × Int)
abbrev RegT := Cs × Cs × (Int × Int) × (Int × Int) × Int × Int × Bool
abbrev CircT := List Cs × List GateT × List RegT × List (Cs × Cs)
theorem pow_le_64 {n : Nat} (h : n < 7) : 2 ^ n ≤ 64 := by
  calc 2 ^ n ≤ 2 ^ 6 := Nat.pow_le_pow_right (by omega) (by omega)
    _ = 64 := rfl
/-! what _law_same may be handed -/
theorem fit_nC (s : Cs) (n : Nat) : (nC s).fit n = true := by
  simp [nC]; intro x _; simpa using toNat_lt x
theorem fit_nV {α : Type} {e : α → W} {xs : List α} {n : Nat} (h : xs.length < 9000000) (k : ∀ x ∈ xs, (e x).fit n = true) : (nV e xs).fit (n + 1) = true := by
  simp [nV]; exact ⟨h, k⟩
theorem fit_nL {α : Type} {e : α → W} {xs : List α} {n : Nat} (h : xs.length < 9000000) (k : ∀ x ∈ xs, (e x).fit n = true) : (nL e xs).fit (n + 1) = true := by
  simp [nL]; exact ⟨h, k⟩
structure CircFit (C : CircT) : Prop where
  i : C.1.length < 9000000
  g : C.2.1.length < 9000000
  gs : ∀ g ∈ C.2.1, g.2.1.length < 9000000 ∧ g.2.2.1.length < 9000000 ∧ g.2.2.2.length < 9000000
  r : C.2.2.1.length < 9000000
  o : C.2.2.2.length < 9000000
theorem circ_fitN {C : CircT} (n : Nat) (h : CircFit C) : (nT (tC (nV nC) (tC (nV (nT (tC nC (tC (nV nB) (tC (nV nC) (t1 (nV (nT (tC nI (t1 nI)))))))))) (tC (nV (nT (tC nC (tC nC (tC (nT (tC nI (t1 nI))) (tC (nT (tC nI (t1 nI))) (tC nI (tC nI (t1 nB))))))))) (t1 (nV (nT (tC nC (t1 nC)))))))) C).fit (n + 5) = true := by
  obtain ⟨h1, h2, h3, h4, h5⟩ := h
  simp only [nT, tC, t1, fit_tup, List.all_cons, List.all_nil, List.length_cons, List.length_nil, Bool.and_true, Bool.and_eq_true, decide_eq_true_eq]
  refine ⟨by omega, fit_nV h1 fun x _ => fit_nC _ _, fit_nV h2 fun g hg => ?_, fit_nV h4 fun r _ => ?_, fit_nV h5 fun o _ => ?_⟩
  · obtain ⟨g1, g2, g3⟩ := h3 g hg
    simp only [nT, tC, t1, fit_tup, List.all_cons, List.all_nil, List.length_cons, List.length_nil, Bool.and_true, Bool.and_eq_true, decide_eq_true_eq]
    exact ⟨by omega, fit_nC _ _, fit_nV g1 fun x _ => by simp [nB], fit_nV g2 fun x _ => fit_nC _ _, fit_nV g3 fun x _ => by simp [nT, tC, t1, nI]⟩
  · simp only [nT, tC, t1, fit_tup, List.all_cons, List.all_nil, List.length_cons, List.length_nil, Bool.and_true, Bool.and_eq_true, decide_eq_true_eq]
    exact ⟨by omega, fit_nC _ _, fit_nC _ _, ⟨by omega, by simp [nI], by simp [nI]⟩, ⟨by omega, by simp [nI], by simp [nI]⟩, by simp [nI], by simp [nI], by simp [nB]⟩
  · simp only [nT, tC, t1, fit_tup, List.all_cons, List.all_nil, List.length_cons, List.length_nil, Bool.and_true, Bool.and_eq_true, decide_eq_true_eq]
    exact ⟨by omega, fit_nC _ _, fit_nC _ _⟩
theorem circ_fit {C : CircT} (h : CircFit C) : (nT (tC (nV nC) (tC (nV (nT (tC nC (tC (nV nB) (tC (nV nC) (t1 (nV (nT (tC nI (t1 nI)))))))))) (tC (nV (nT (tC nC (tC nC (tC (nT (tC nI (t1 nI))) (tC (nT (tC nI (t1 nI))) (tC nI (tC nI (t1 nB))))))))) (t1 (nV (nT (tC nC (t1 nC)))))))) C).fit 7 = true := circ_fitN 2 h
/-! the law -/
theorem number_spec {Q : Int → Prop} {X : Ex → Prop} (k : ∀ i : Int, i.natAbs < 10 ^ 60 → Q i) : p_Lnumber Q X := by
  simp -implicitDefEqProofs [p_Lnumber]
  refine drawT_of (by omega) (by omega) fun a a0 a1 => ⟨by simp [cPow], drawT_of (by omega) (by omega) fun b b0 b1 => ⟨⟨by omega, by omega, by decide⟩, drawT_big (by omega) (by omega) fun c c0 c1 => drawT_of (by omega) (by omega) fun d d0 d1 => ixT_pick d0 (by simpa using d1) fun n hn => drawT_of (by omega) (by omega) fun e e0 e1 => ixT_pick e0 (by simpa using e1) fun m hm => k m ?_⟩⟩
  have hn : 0 ≤ n ∧ n < 10 ^ 60 := by
    simp only [List.mem_cons, List.not_mem_nil, or_false] at hn
    rcases hn with rfl | rfl | rfl | rfl <;> omega
  simp only [List.mem_cons, List.not_mem_nil, or_false] at hm
  rcases hm with rfl | rfl <;> omega
theorem margin_spec {Q : Option Int → Prop} {X : Ex → Prop} (k : ∀ o, GM o → Q o) : p_Lmargin Q X := by
  simp -implicitDefEqProofs [p_Lmargin]
  refine number_spec fun a ha => number_spec fun b hb => drawT_of (by omega) (by omega) fun c c0 c1 => ixT_pick c0 (by simpa using c1) fun o ho => k o ?_
  simp only [List.mem_cons, List.not_mem_nil, or_false] at ho
  intro i hi
  rcases ho with rfl | rfl | rfl
  · cases hi
  · cases hi; exact ha
  · cases hi; exact hb
theorem bitsL_spec {a b : Int} {n : Nat} {Q : List Bool → Prop} {X : Ex → Prop} (hb : b = n) (hn : n ≤ 9) (k : ∀ v : List Bool, v.length = n → Q v) : p_Lbits a b Q X := by
  subst hb
  simp -implicitDefEqProofs [p_Lbits]
  refine ⟨inR_of _ (by omega) (by omega), forT_inv (fun i (s : Int × List Bool) => s.2.length = i) rfl (fun i hi s hs nx hnx => ?_) fun s hs => ?_⟩
  · rw [rangeT_len] at hi
    exact ⟨lim_lt (by omega), hnx _ (by simp [hs])⟩
  · rw [rangeT_len] at hs
    exact k _ (by omega)
theorem report_spec {Q : RepR → Prop} {X : Ex → Prop} (k : ∀ R, GRep R → Q R) : p_Lreport Q X := by
  simp -implicitDefEqProofs [p_Lreport]
  refine drawT_nat (by omega) (by omega) fun sz hsz => drawT_of (by omega) (by omega) fun m m0 m1 => ⟨inR_of _ (by omega) (by omega), ?_⟩
  refine forT_inv (fun i (s : List RowR) => s.length = i ∧ (∀ r ∈ s, GRow sz r ∧ r.1.length ≤ 44 + i) ∧ (s.map (·.1)).Nodup) ⟨rfl, by simp, by simp⟩ (fun i hi s hs nx hnx => ?_) fun s hs => ?_
  · rw [rangeT_len] at hi
    obtain ⟨sl, hs, nd⟩ := hs
    refine drawT_of (by omega) (by omega) fun p p0 p1 => ⟨inR_of _ (by omega) (by omega), ?_⟩
    refine lcT_rel (fun _ w => GW w ∧ w ∉ kws) (lim_of (by rw [rangeT_len]; omega)) (fun x hx Q q => wordB_spec fun w h1 h2 => q w ⟨h1, h2⟩) fun ps pl hp => ?_
    rw [rangeT_len] at pl
    have hp' : ∀ w ∈ ps, GW w ∧ w ∉ kws := fun w hw => by
      obtain ⟨i, hi, rfl⟩ := List.getElem_of_mem hw
      exact hp i (by rw [rangeT_len]; omega) hi
    have hg : NmR (joinT ['/'] ps) := ⟨ps, fun e => by simp [e] at pl; omega, fun q hq => ⟨(hp' q hq).1.h, (hp' q hq).1.al, (hp' q hq).2⟩, rfl⟩
    have fl := flat_len (fun w : Cs => w) 14 ps fun w hw => (hp' w hw).1.len
    have fl2 : ps.length * 14 ≤ 3 * 14 := Nat.mul_le_mul_right _ (by omega)
    have jl : (joinT ['/'] ps).length ≤ 44 := by
      cases ps with
      | nil => simp [joinT]
      | cons q r =>
        have h1 := (hp' q (by simp)).1.len
        have h2 := flat_len (fun w : Cs => ['/'] ++ w) 15 r fun w hw => by
          have := (hp' w (by simp [hw])).1.len
          simp; omega
        have h3 : r.length * 15 ≤ 2 * 15 := Nat.mul_le_mul_right _ (by simp at pl; omega)
        rw [joinT_cons, List.length_append]
        omega
    rw [List.map_id', List.length_flatten] at fl
    refine ⟨lim_of (by omega), ?_⟩
    have ff : List.filter (fun x : RowR => true) s = s := List.filter_eq_self.2 (by simp)
    rw [ff]
    refine whT_meas (fun q : Cs => NmR q ∧ q.length ≤ 44 + (i + 1)) (fun q => 200 - q.length) ⟨hg, by omega⟩ ?_
    rintro q ⟨qn, ql⟩ nx2 hnx2
    refine ⟨lim_of (by omega), ?_⟩
    split
    · rename_i hm
      obtain ⟨r, hr, rfl⟩ := List.mem_map.1 hm
      have := (hs r hr).2
      exact ⟨lim_of (by omega), hnx2 _ ⟨qn.snoc, by simp; omega⟩ (by simp; omega)⟩
    · rename_i hm
      have app : ∀ (a b : Option Int) (v : Option (Int × List Bool)), GM a → GM b → (∀ t w, v = some (t, w) → t.natAbs < 10 ^ 60 ∧ w.length = sz) → s.length < lim ∧ nx (s ++ [(q, a, b, v)]) := fun a b v ha hb hv => by
        refine ⟨lim_lt (by omega), hnx _ ⟨by simp [sl], fun r hr => ?_, ?_⟩⟩
        · rcases List.mem_append.1 hr with hr | hr
          · have := hs r hr
            exact ⟨this.1, by omega⟩
          · have : r = (q, a, b, v) := by simpa using hr
            subst this
            exact ⟨⟨qn, by show q.length ≤ 60; omega, ha, hb, hv⟩, ql⟩
        · rw [List.map_append, List.nodup_append]
          refine ⟨nd, by simp, fun x hx y hy => ?_⟩
          have : y = q := by simpa using hy
          subst this
          exact fun e => hm (by rw [← e]; exact hx)
      refine drawT_of (by omega) (by omega) fun u u0 u1 => ?_
      split
      · refine number_spec fun t ht => drawT_of (by omega) (by omega) fun w w0 w1 => bitsL_spec rfl (by omega) fun v hv => margin_spec fun a ha => margin_spec fun b hb => app a b _ ha hb fun t' w' e => ?_
        cases e
        exact ⟨ht, hv⟩
      · exact margin_spec fun a ha => margin_spec fun b hb => app a b _ ha hb fun t' w' e => by cases e
  · rw [rangeT_len] at hs
    obtain ⟨sl, hs, nd⟩ := hs
    refine wordB_spec fun w h1 h2 => ⟨⟨by omega, by omega, by decide⟩, drawT_of (by omega) (by omega) fun e e0 e1 => k _ ?_⟩
    exact ⟨⟨h1.h, h1.al, h2⟩, h1.len, ⟨by show 1 ≤ 1 + e; omega, by show 1 + e ≤ _; omega⟩, by show s.length ≤ 5; omega, nd, sz, by omega, fun r hr => (hs r hr).1⟩
theorem fit_nOI (o : Option Int) (n : Nat) : (nO nI o).fit n = true := by cases o <;> simp [nO, nI]
theorem rep_fit {R : RepR} (g : GRep R) : (nT (tC nC (tC nI (t1 (nV (nT (tC nC (tC (nO nI) (tC (nO nI) (t1 (nO (nT (tC nI (t1 (nV nB)))))))))))))) R).fit 7 = true := by
  obtain ⟨n, hn, hr⟩ := g.sz
  have rl := g.rows
  simp only [nT, tC, t1, fit_tup, List.all_cons, List.all_nil, List.length_cons, List.length_nil, Bool.and_true, Bool.and_eq_true, decide_eq_true_eq]
  refine ⟨by omega, fit_nC _ _, by simp [nI], fit_nV (by omega) fun r hm => ?_⟩
  have gr := hr r hm
  obtain ⟨a, b, c, d⟩ := r
  simp only [nT, tC, t1, fit_tup, List.all_cons, List.all_nil, List.length_cons, List.length_nil, Bool.and_true, Bool.and_eq_true, decide_eq_true_eq]
  refine ⟨by omega, fit_nC _ _, fit_nOI _ _, fit_nOI _ _, ?_⟩
  cases d with
  | none => simp [nO]
  | some q =>
    obtain ⟨t, v⟩ := q
    have := (gr.v t v rfl).2
    simp only [nO, nT, tC, t1, fit_tup, List.all_cons, List.all_nil, List.length_cons, List.length_nil, Bool.and_true, Bool.and_eq_true, decide_eq_true_eq]
    exact ⟨by omega, by simp [nI], fit_nV (by omega) fun x _ => by simp [nB]⟩
theorem law_plain : p_law (fun b => b = true) (fun _ => False) := by
  simp -implicitDefEqProofs [p_law]
  refine forT_all (fun x hx nx hn => ?_) trivial
  refine report_spec fun R g => repT_spec g ?_
  have rl := g.rows
  refine lcT_of (fun r : RowR => r.2.2.2.isSome) (fun r => r) (lim_of (by omega)) (fun x hx Q q => q) (fun x hx _ Q q => q) ?_
  rw [List.map_id']
  refine repW_spec g ⟨rfl, fit_nC _ _, rfl, clean_spec (by omega) ⟨rfl, by simp [nB], rfl, repRd_spec g ⟨rfl, rep_fit g, rfl, hn⟩⟩⟩
theorem law_true : ∀ ns : List Int, ns.length ≤ 63 → f_law [.ro (ns.map W.int)] [] = .ok (.bl true) [] := t_law law_plain
end M

-- Deriv
set_option Elab.async false
set_option linter.all false
set_option maxRecDepth 100000
set_option maxHeartbeats 4000000
namespace M
open PySem L2
def topS (i : Nat) : Stmt := PySem.Challenge.pw_signoff_k71_reports_written.main.body.getD i (.Pass ⟨0, 0, 0, 0⟩)
abbrev s_Lpool : Stmt := topS 24
abbrev N_Lpool : List Str := ["_law_script", "_law_salt", "_law_cell"]
theorem sc_Lpool : FnScope N_Lpool ["_law_script"] (defScope s_Lpool) := ⟨rfl, rfl, rfl, by decide +kernel, rfl, by decide +kernel, by decide +kernel⟩
abbrev s_Lspread : Stmt := topS 25
abbrev N_Lspread : List Str := ["_law_cell", "_law_mixed", "_law_total", "_law_k"]
theorem sc_Lspread : FnScope N_Lspread ["_law_cell"] (defScope s_Lspread) := ⟨rfl, rfl, rfl, by decide +kernel, rfl, by decide +kernel, by decide +kernel⟩
abbrev s_Ldraw : Stmt := topS 26
abbrev N_Ldraw : List Str := ["_law_pool_here", "_law_many", "_law_cell", "_law_mixed", "_law_value"]
theorem sc_Ldraw : FnScope N_Ldraw ["_law_pool_here", "_law_many"] (defScope s_Ldraw) := ⟨rfl, rfl, rfl, by decide +kernel, rfl, by decide +kernel, by decide +kernel⟩
abbrev s_Lword : Stmt := topS 28
abbrev N_Lword : List Str := ["_law_pool_here", "_law_heads", "_law_rest", "_law_word_here", "_law_k"]
theorem sc_Lword : FnScope N_Lword ["_law_pool_here"] (defScope s_Lword) := ⟨rfl, rfl, rfl, by decide +kernel, rfl, by decide +kernel, by decide +kernel⟩
abbrev s_Lnumber : Stmt := topS 30
abbrev N_Lnumber : List Str := ["_law_pool_here", "_law_number_here"]
theorem sc_Lnumber : FnScope N_Lnumber ["_law_pool_here"] (defScope s_Lnumber) := ⟨rfl, rfl, rfl, by decide +kernel, rfl, by decide +kernel, by decide +kernel⟩
abbrev s_Lbits : Stmt := topS 29
abbrev N_Lbits : List Str := ["_law_index", "_law_many", "_law_out", "_law_k"]
theorem sc_Lbits : FnScope N_Lbits ["_law_index", "_law_many"] (defScope s_Lbits) := ⟨rfl, rfl, rfl, by decide +kernel, rfl, by decide +kernel, by decide +kernel⟩
abbrev s_Lmargin : Stmt := topS 31
abbrev N_Lmargin : List Str := ["_law_pool_here"]
theorem sc_Lmargin : FnScope N_Lmargin ["_law_pool_here"] (defScope s_Lmargin) := ⟨rfl, rfl, rfl, by decide +kernel, rfl, by decide +kernel, by decide +kernel⟩
abbrev s_Lreport : Stmt := topS 32
abbrev N_Lreport : List Str := ["_law_pool_here", "_law_rows", "_law_size", "_law_k", "_law_name", "_law_violation", "_law_j", "_law_row"]
theorem sc_Lreport : FnScope N_Lreport ["_law_pool_here"] (defScope s_Lreport) := ⟨rfl, rfl, rfl, by decide +kernel, rfl, by decide +kernel, by decide +kernel⟩
abbrev s_Lshown : Stmt := topS 33
abbrev N_Lshown : List Str := ["_law_value"]
theorem sc_Lshown : FnScope N_Lshown ["_law_value"] (defScope s_Lshown) := ⟨rfl, rfl, rfl, by decide +kernel, rfl, by decide +kernel, by decide +kernel⟩
abbrev s_Ltext : Stmt := topS 34
abbrev N_Ltext : List Str := ["_law_report_here", "_law_text_here", "_law_row", "_law_bits_here", "_law_clean", "_law_bit"]
theorem sc_Ltext : FnScope N_Ltext ["_law_report_here"] (defScope s_Ltext) := ⟨rfl, rfl, rfl, by decide +kernel, rfl, by decide +kernel, by decide +kernel⟩
abbrev s_Lsame : Stmt := topS 27
abbrev N_Lsame : List Str := ["_law_actual", "_law_due", "_law_k"]
theorem sc_Lsame : FnScope N_Lsame ["_law_actual", "_law_due"] (defScope s_Lsame) := ⟨rfl, rfl, rfl, by decide +kernel, rfl, by decide +kernel, by decide +kernel⟩
abbrev s_read_integer : Stmt := topS 17
abbrev N_read_integer : List Str := ["word", "digits", "char"]
theorem sc_read_integer : FnScope N_read_integer ["word"] (defScope s_read_integer) := ⟨rfl, rfl, rfl, by decide +kernel, rfl, by decide +kernel, by decide +kernel⟩
abbrev s_is_word : Stmt := topS 7
abbrev N_is_word : List Str := ["token"]
theorem sc_is_word : FnScope N_is_word ["token"] (defScope s_is_word) := ⟨rfl, rfl, rfl, by decide +kernel, rfl, by decide +kernel, by decide +kernel⟩
abbrev s_is_name : Stmt := topS 8
abbrev N_is_name : List Str := ["token"]
theorem sc_is_name : FnScope N_is_name ["token"] (defScope s_is_name) := ⟨rfl, rfl, rfl, by decide +kernel, rfl, by decide +kernel, by decide +kernel⟩
abbrev s_read_name : Stmt := topS 18
abbrev N_read_name : List Str := ["word", "char"]
theorem sc_read_name : FnScope N_read_name ["word"] (defScope s_read_name) := ⟨rfl, rfl, rfl, by decide +kernel, rfl, by decide +kernel, by decide +kernel⟩
abbrev s_read_margin : Stmt := topS 19
abbrev N_read_margin : List Str := ["word"]
theorem sc_read_margin : FnScope N_read_margin ["word"] (defScope s_read_margin) := ⟨rfl, rfl, rfl, by decide +kernel, rfl, by decide +kernel, by decide +kernel⟩
abbrev s_read_bits : Stmt := topS 20
abbrev N_read_bits : List Str := ["word", "char"]
theorem sc_read_bits : FnScope N_read_bits ["word"] (defScope s_read_bits) := ⟨rfl, rfl, rfl, by decide +kernel, rfl, by decide +kernel, by decide +kernel⟩
abbrev s_read_row : Stmt := topS 21
abbrev N_read_row : List Str := ["line", "words", "part", "violation"]
theorem sc_read_row : FnScope N_read_row ["line"] (defScope s_read_row) := ⟨rfl, rfl, rfl, by decide +kernel, rfl, by decide +kernel, by decide +kernel⟩
abbrev s_is_clean_report : Stmt := topS 10
abbrev N_is_clean_report : List Str := ["report", "row"]
theorem sc_is_clean_report : FnScope N_is_clean_report ["report"] (defScope s_is_clean_report) := ⟨rfl, rfl, rfl, by decide +kernel, rfl, by decide +kernel, by decide +kernel⟩
abbrev s_read_report : Stmt := topS 22
abbrev N_read_report : List Str := ["text", "lines", "words", "period", "rows", "report", "sizes", "line", "row"]
theorem sc_read_report : FnScope N_read_report ["text"] (defScope s_read_report) := ⟨rfl, rfl, rfl, by decide +kernel, rfl, by decide +kernel, by decide +kernel⟩
abbrev s_show_margin : Stmt := topS 14
abbrev N_show_margin : List Str := ["margin"]
theorem sc_show_margin : FnScope N_show_margin ["margin"] (defScope s_show_margin) := ⟨rfl, rfl, rfl, by decide +kernel, rfl, by decide +kernel, by decide +kernel⟩
abbrev s_show_bits : Stmt := topS 15
abbrev N_show_bits : List Str := ["vector", "bit"]
theorem sc_show_bits : FnScope N_show_bits ["vector"] (defScope s_show_bits) := ⟨rfl, rfl, rfl, by decide +kernel, rfl, by decide +kernel, by decide +kernel⟩
abbrev s_write_report : Stmt := topS 16
abbrev N_write_report : List Str := ["report", "module", "period", "rows", "lines", "name", "setup", "hold", "violation", "line"]
theorem sc_write_report : FnScope N_write_report ["report"] (defScope s_write_report) := ⟨rfl, rfl, rfl, by decide +kernel, rfl, by decide +kernel, by decide +kernel⟩
abbrev s_law : Stmt := topS 35
abbrev N_law : List Str := ["_law_script", "_law_pool_here", "_law_turn", "_law_report_here", "_law_text_here", "_law_clean", "_law_row"]
theorem sc_law : FnScope N_law ["_law_script"] (defScope s_law) := ⟨rfl, rfl, rfl, by decide +kernel, rfl, by decide +kernel, by decide +kernel⟩
structure Txt (Γ : Gm) (mg : Str → Option Value) where
  c_BadReport : Addr
  g_BadReport : mg "BadReport" = some (.ref c_BadReport)
  q_BadReport : PySem.W.excIn Γ.K c_BadReport [.type "ValueError", .type "Exception", .type "BaseException", .type "object"] "ValueError.__new__" = true
  k_BadReport : PySem.W.keepIn Γ.K (.ref c_BadReport) = true
  b_BadReport : PySem.W.subIn Γ.K (.ref c_BadReport) (.type "BaseException") = some true
  t_BadReport : PySem.W.typeIn Γ.K (.ref c_BadReport) = some (.type "type")
  l_BadReport : Γ.cl "BadReport" = some (.ref c_BadReport)
  u_DIGITS : Value
  v_DIGITS : mg "DIGITS" = some u_DIGITS
  w_DIGITS : ∃ t, u_DIGITS = .str "0123456789" t
  u_KEYWORDS : Value
  v_KEYWORDS : mg "KEYWORDS" = some u_KEYWORDS
  w_KEYWORDS : GTup Γ.K u_KEYWORDS [[99, 101, 108, 108], [112, 105, 110], [109, 111, 100, 117, 108, 101], [103, 97, 116, 101], [112, 97, 114, 116], [114, 101, 103], [101, 100, 103, 101], [111, 117, 116], [115, 101, 116, 117, 112], [104, 111, 108, 100], [115, 116, 97, 114, 116]]
  u_LETTERS : Value
  v_LETTERS : mg "LETTERS" = some u_LETTERS
  w_LETTERS : ∃ t, u_LETTERS = .str "abcdefghijklmnopqrstuvwxyz" t
  u_MOST_DIGITS : Value
  v_MOST_DIGITS : mg "MOST_DIGITS" = some u_MOST_DIGITS
  w_MOST_DIGITS : ∃ t, u_MOST_DIGITS = .int (60) t
  u_WORD_CHARS : Value
  v_WORD_CHARS : mg "WORD_CHARS" = some u_WORD_CHARS
  w_WORD_CHARS : ∃ t, u_WORD_CHARS = .str "abcdefghijklmnopqrstuvwxyz0123456789_" t
  a_Lpool : Addr
  d_Lpool : FuncData
  F_Lpool : Fun Γ.K "_law_pool" "_law_pool" s_Lpool a_Lpool d_Lpool
  b_Lpool : Binds Γ.K d_Lpool ["_law_script"] []
  m_Lpool : mg "_law_pool" = some (.ref a_Lpool)
  a_Lspread : Addr
  d_Lspread : FuncData
  F_Lspread : Fun Γ.K "_law_spread" "_law_spread" s_Lspread a_Lspread d_Lspread
  b_Lspread : Binds Γ.K d_Lspread ["_law_cell"] []
  m_Lspread : mg "_law_spread" = some (.ref a_Lspread)
  a_Ldraw : Addr
  d_Ldraw : FuncData
  F_Ldraw : Fun Γ.K "_law_draw" "_law_draw" s_Ldraw a_Ldraw d_Ldraw
  b_Ldraw : Binds Γ.K d_Ldraw ["_law_pool_here", "_law_many"] []
  m_Ldraw : mg "_law_draw" = some (.ref a_Ldraw)
  a_Lword : Addr
  d_Lword : FuncData
  F_Lword : Fun Γ.K "_law_word" "_law_word" s_Lword a_Lword d_Lword
  b_Lword : Binds Γ.K d_Lword ["_law_pool_here"] []
  m_Lword : mg "_law_word" = some (.ref a_Lword)
  a_Lnumber : Addr
  d_Lnumber : FuncData
  F_Lnumber : Fun Γ.K "_law_number" "_law_number" s_Lnumber a_Lnumber d_Lnumber
  b_Lnumber : Binds Γ.K d_Lnumber ["_law_pool_here"] []
  m_Lnumber : mg "_law_number" = some (.ref a_Lnumber)
  a_Lbits : Addr
  d_Lbits : FuncData
  F_Lbits : Fun Γ.K "_law_bits" "_law_bits" s_Lbits a_Lbits d_Lbits
  b_Lbits : Binds Γ.K d_Lbits ["_law_index", "_law_many"] []
  m_Lbits : mg "_law_bits" = some (.ref a_Lbits)
  a_Lmargin : Addr
  d_Lmargin : FuncData
  F_Lmargin : Fun Γ.K "_law_margin" "_law_margin" s_Lmargin a_Lmargin d_Lmargin
  b_Lmargin : Binds Γ.K d_Lmargin ["_law_pool_here"] []
  m_Lmargin : mg "_law_margin" = some (.ref a_Lmargin)
  a_Lreport : Addr
  d_Lreport : FuncData
  F_Lreport : Fun Γ.K "_law_report" "_law_report" s_Lreport a_Lreport d_Lreport
  b_Lreport : Binds Γ.K d_Lreport ["_law_pool_here"] []
  m_Lreport : mg "_law_report" = some (.ref a_Lreport)
  a_Lshown : Addr
  d_Lshown : FuncData
  F_Lshown : Fun Γ.K "_law_shown" "_law_shown" s_Lshown a_Lshown d_Lshown
  b_Lshown : Binds Γ.K d_Lshown ["_law_value"] []
  m_Lshown : mg "_law_shown" = some (.ref a_Lshown)
  a_Ltext : Addr
  d_Ltext : FuncData
  F_Ltext : Fun Γ.K "_law_text" "_law_text" s_Ltext a_Ltext d_Ltext
  b_Ltext : Binds Γ.K d_Ltext ["_law_report_here"] []
  m_Ltext : mg "_law_text" = some (.ref a_Ltext)
  a_Lsame : Addr
  d_Lsame : FuncData
  F_Lsame : Fun Γ.K "_law_same" "_law_same" s_Lsame a_Lsame d_Lsame
  b_Lsame : Binds Γ.K d_Lsame ["_law_actual", "_law_due"] []
  m_Lsame : mg "_law_same" = some (.ref a_Lsame)
  a_read_integer : Addr
  d_read_integer : FuncData
  F_read_integer : Fun Γ.K "read_integer" "read_integer" s_read_integer a_read_integer d_read_integer
  b_read_integer : Binds Γ.K d_read_integer ["word"] []
  m_read_integer : mg "read_integer" = some (.ref a_read_integer)
  a_is_word : Addr
  d_is_word : FuncData
  F_is_word : Fun Γ.K "is_word" "is_word" s_is_word a_is_word d_is_word
  b_is_word : Binds Γ.K d_is_word ["token"] []
  m_is_word : mg "is_word" = some (.ref a_is_word)
  a_is_name : Addr
  d_is_name : FuncData
  F_is_name : Fun Γ.K "is_name" "is_name" s_is_name a_is_name d_is_name
  b_is_name : Binds Γ.K d_is_name ["token"] []
  m_is_name : mg "is_name" = some (.ref a_is_name)
  a_read_name : Addr
  d_read_name : FuncData
  F_read_name : Fun Γ.K "read_name" "read_name" s_read_name a_read_name d_read_name
  b_read_name : Binds Γ.K d_read_name ["word"] []
  m_read_name : mg "read_name" = some (.ref a_read_name)
  a_read_margin : Addr
  d_read_margin : FuncData
  F_read_margin : Fun Γ.K "read_margin" "read_margin" s_read_margin a_read_margin d_read_margin
  b_read_margin : Binds Γ.K d_read_margin ["word"] []
  m_read_margin : mg "read_margin" = some (.ref a_read_margin)
  a_read_bits : Addr
  d_read_bits : FuncData
  F_read_bits : Fun Γ.K "read_bits" "read_bits" s_read_bits a_read_bits d_read_bits
  b_read_bits : Binds Γ.K d_read_bits ["word"] []
  m_read_bits : mg "read_bits" = some (.ref a_read_bits)
  a_read_row : Addr
  d_read_row : FuncData
  F_read_row : Fun Γ.K "read_row" "read_row" s_read_row a_read_row d_read_row
  b_read_row : Binds Γ.K d_read_row ["line"] []
  m_read_row : mg "read_row" = some (.ref a_read_row)
  a_is_clean_report : Addr
  d_is_clean_report : FuncData
  F_is_clean_report : Fun Γ.K "is_clean_report" "is_clean_report" s_is_clean_report a_is_clean_report d_is_clean_report
  b_is_clean_report : Binds Γ.K d_is_clean_report ["report"] []
  m_is_clean_report : mg "is_clean_report" = some (.ref a_is_clean_report)
  a_read_report : Addr
  d_read_report : FuncData
  F_read_report : Fun Γ.K "read_report" "read_report" s_read_report a_read_report d_read_report
  b_read_report : Binds Γ.K d_read_report ["text"] []
  m_read_report : mg "read_report" = some (.ref a_read_report)
  a_show_margin : Addr
  d_show_margin : FuncData
  F_show_margin : Fun Γ.K "show_margin" "show_margin" s_show_margin a_show_margin d_show_margin
  b_show_margin : Binds Γ.K d_show_margin ["margin"] []
  m_show_margin : mg "show_margin" = some (.ref a_show_margin)
  a_show_bits : Addr
  d_show_bits : FuncData
  F_show_bits : Fun Γ.K "show_bits" "show_bits" s_show_bits a_show_bits d_show_bits
  b_show_bits : Binds Γ.K d_show_bits ["vector"] []
  m_show_bits : mg "show_bits" = some (.ref a_show_bits)
  a_write_report : Addr
  d_write_report : FuncData
  F_write_report : Fun Γ.K "write_report" "write_report" s_write_report a_write_report d_write_report
  b_write_report : Binds Γ.K d_write_report ["report"] []
  m_write_report : mg "write_report" = some (.ref a_write_report)
  z_bool : mg "bool" = none
  z_int : mg "int" = none
  z_isinstance : mg "isinstance" = none
  z_len : mg "len" = none
  z_list : mg "list" = none
  z_range : mg "range" = none
  z_set : mg "set" = none
  z_sorted : mg "sorted" = none
  z_str : mg "str" = none
  z_tuple : mg "tuple" = none
section
variable {P : Program} {wo : World} {Γ : Gm} {mg : Str → Option Value} {base : Heap}
theorem ok_Lpool (T : Txt Γ mg) : FnOk P wo Γ.K mg base (L2.CX P wo) 1 T.a_Lpool T.d_Lpool ["_law_script"] (spI Γ 1 f_Lpool) := by
  have key : FnOk P wo Γ.K mg base (L2.CX P wo) (0 + 1) T.a_Lpool T.d_Lpool ["_law_script"] (spI Γ (["_law_script"] : List Str).length (runDef N_Lpool.length .lst (b_Lpool))) := by
    refine fn_i (m := .lst) (ς := b_Lpool) T.F_Lpool sc_Lpool (fun cdv A outer s H E hr => ?_)
    have tk : Takes (cxOf (L2.CX P wo) P wo Γ.K mg base N_Lpool "_law_pool" (defScope s_Lpool) T.a_Lpool cdv A outer s H E) (fun c d _ H' => E c d H') := takes_of rfl rfl rfl rfl
    unfold b_Lpool
    exact (p_cons (s_set (i := 1) sc_Lpool.nd i_int)
    (p_cons (s_for (passes_of rfl) rfl (w_seq rfl (i_lst (l_sl rfl (i_var 0) o_none (o_some i_int)))) (g_name 2 sc_Lpool.nd)
    (p_one (s_set (i := 1) sc_Lpool.nd (i_op op_mod sem_mod (i_ct call_int1 sem_int T.z_int (a_cons (i_op add_any sem_add (i_op mul_any sem_mul (i_var 1) i_int) (i_var 2)) a_nil)) i_int))))
    (p_one (s_ret (i_new (l_lst (a_cons (i_lst (l_list rfl rfl T.z_list (i_var 0))) (a_cons i_int (a_cons i_int (a_cons i_int (a_cons (i_var 1) a_nil)))))))))))
  exact key
theorem ok_Lspread (T : Txt Γ mg) : FnOk P wo Γ.K mg base (L2.CX P wo) 1 T.a_Lspread T.d_Lspread ["_law_cell"] (spI Γ 1 f_Lspread) := by
  have key : FnOk P wo Γ.K mg base (L2.CX P wo) (0 + 1) T.a_Lspread T.d_Lspread ["_law_cell"] (spI Γ (["_law_cell"] : List Str).length (runDef N_Lspread.length .pur (b_Lspread))) := by
    refine fn_i (m := .pur) (ς := b_Lspread) T.F_Lspread sc_Lspread (fun cdv A outer s H E hr => ?_)
    have tk : Takes (cxOf (L2.CX P wo) P wo Γ.K mg base N_Lspread "_law_spread" (defScope s_Lspread) T.a_Lspread cdv A outer s H E) (fun c d _ H' => E c d H') := takes_of rfl rfl rfl rfl
    unfold b_Lspread
    exact (p_cons (s_set (i := 1) sc_Lspread.nd (i_op op_mod sem_mod (i_ct call_int1 sem_int T.z_int (a_cons (i_var 0) a_nil)) i_int))
    (p_cons (s_set (i := 2) sc_Lspread.nd i_int)
    (p_cons (s_for (passes_of rfl) rfl (w_range1 T.z_range (a_cons i_int a_nil)) (g_name 3 sc_Lspread.nd)
    (p_cons (s_set (i := 1) sc_Lspread.nd (i_op op_mod sem_mod (i_ct call_int1 sem_int T.z_int (a_cons (i_op add_any sem_add (i_op add_any sem_add (i_op mul_any sem_mul (i_var 1) i_int) i_int) (i_var 3)) a_nil)) i_int))
    (p_one (s_set (i := 2) sc_Lspread.nd (i_op add_any sem_add (i_op mul_any sem_mul (i_var 2) i_int) (i_var 1))))))
    (p_one (s_ret (i_var 2))))))
  exact key
theorem ok_Ldraw (T : Txt Γ mg) : FnOk P wo Γ.K mg base (L2.CX P wo) 2 T.a_Ldraw T.d_Ldraw ["_law_pool_here", "_law_many"] (spI Γ 2 f_Ldraw) := by
  have key : FnOk P wo Γ.K mg base (L2.CX P wo) (1 + 1) T.a_Ldraw T.d_Ldraw ["_law_pool_here", "_law_many"] (spI Γ (["_law_pool_here", "_law_many"] : List Str).length (runDef N_Ldraw.length .pur (b_Ldraw))) := by
    refine fn_i (m := .pur) (ς := b_Ldraw) T.F_Ldraw sc_Ldraw (fun cdv A outer s H E hr => ?_)
    have tk : Takes (cxOf (L2.CX P wo) P wo Γ.K mg base N_Ldraw "_law_draw" (defScope s_Ldraw) T.a_Ldraw cdv A outer s H E) (fun c d _ H' => E c d H') := takes_of rfl rfl rfl rfl
    unfold b_Ldraw
    exact (p_cons (s_if (PW.pt (jw_and (j_cmp op_le sem_le (i_ix rfl (i_var 0) i_int) i_int (nomark _)) (pw_and1 (j_cmp op_lt sem_lt (i_ix rfl (i_var 0) i_int) (i_cb call_len sem_len T.z_len (a_cons (i_ix rfl (i_var 0) i_int) a_nil)) (nomark _))))) (p_cons (s_set (i := 2) sc_Ldraw.nd (i_ix rfl (i_ix rfl (i_var 0) i_int) (i_ix rfl (i_var 0) i_int)))
    (p_cons (s_setIx (i_op add_any sem_add (i_ix rfl (i_var 0) i_int) i_int) (i_var 0) i_int set_list (pg_sub (i_var 0) i_int set_list))
    (p_cons (s_setIx (i_var 2) (i_var 0) i_int set_list (pg_sub (i_var 0) i_int set_list))
    (p_one (s_if (j_cmp op_lt sem_lt (i_var 2) i_int (nomark _)) (p_one (s_setIx (i_call (ok_Lspread T) (hr.mono (by omega)) T.m_Lspread T.F_Lspread.kp T.b_Lspread tk (a_cons (i_var 2) a_nil)) (i_var 0) i_int set_list (pg_sub (i_var 0) i_int set_list)))
    p_nil)))))
    p_nil)
    (p_cons (s_setIx (i_op add_any sem_add (i_ix rfl (i_var 0) i_int) i_int) (i_var 0) i_int set_list (pg_sub (i_var 0) i_int set_list))
    (p_cons (s_if (j_cmp op_le sem_le (i_ix rfl (i_var 0) i_int) i_int (nomark _)) (p_cons (s_set (i := 3) sc_Ldraw.nd (i_op op_mod sem_mod (i_ct call_int1 sem_int T.z_int (a_cons (i_op add_any sem_add (i_op add_any sem_add (i_op mul_any sem_mul (i_ix rfl (i_var 0) i_int) i_int) (i_op mul_any sem_mul (i_ix rfl (i_var 0) i_int) i_int)) i_int) a_nil)) i_int))
    (p_cons (s_set (i := 3) sc_Ldraw.nd (i_op op_mod sem_mod (i_ct call_int1 sem_int T.z_int (a_cons (i_op add_any sem_add (i_op mul_any sem_mul (i_var 3) i_int) (i_ix rfl (i_var 0) i_int)) a_nil)) i_int))
    (p_one (s_ret (i_op op_mod sem_mod (i_op op_fdivW sem_div (i_var 3) i_int) (i_var 1))))))
    p_nil)
    (p_cons (s_set (i := 4) sc_Ldraw.nd (i_op op_mod sem_mod (i_ct call_int1 sem_int T.z_int (a_cons (i_ix rfl (i_var 0) i_int) a_nil)) (i_var 1)))
    (p_cons (s_setIx (i_op op_fdivW sem_div (i_ix rfl (i_var 0) i_int) (i_var 1)) (i_var 0) i_int set_list (pg_sub (i_var 0) i_int set_list))
    (p_one (s_ret (i_var 4))))))))
  exact key
theorem ok_Lword (T : Txt Γ mg) : FnOk P wo Γ.K mg base (L2.CX P wo) 3 T.a_Lword T.d_Lword ["_law_pool_here"] (spI Γ 1 f_Lword) := by
  have key : FnOk P wo Γ.K mg base (L2.CX P wo) (2 + 1) T.a_Lword T.d_Lword ["_law_pool_here"] (spI Γ (["_law_pool_here"] : List Str).length (runDef N_Lword.length .pur (b_Lword))) := by
    refine fn_i (m := .pur) (ς := b_Lword) T.F_Lword sc_Lword (fun cdv A outer s H E hr => ?_)
    have tk : Takes (cxOf (L2.CX P wo) P wo Γ.K mg base N_Lword "_law_word" (defScope s_Lword) T.a_Lword cdv A outer s H E) (fun c d _ H' => E c d H') := takes_of rfl rfl rfl rfl
    unfold b_Lword
    exact (p_cons (s_set (i := 1) sc_Lword.nd i_str)
    (p_cons (s_set (i := 2) sc_Lword.nd i_str)
    (p_cons (s_set (i := 3) sc_Lword.nd (i_ixS (i_var 1) (i_call (ok_Ldraw T) (hr.mono (by omega)) T.m_Ldraw T.F_Ldraw.kp T.b_Ldraw tk (a_cons (i_var 0) (a_cons i_int a_nil)))))
    (p_cons (s_for (passes_of rfl) rfl (w_range1 T.z_range (a_cons (i_ix rfl (i_lst (l_lst (a_cons i_int (a_cons i_int (a_cons i_int (a_cons i_int (a_cons i_int (a_cons i_int (a_cons i_int (a_cons i_int a_nil)))))))))) (i_call (ok_Ldraw T) (hr.mono (by omega)) T.m_Ldraw T.F_Ldraw.kp T.b_Ldraw tk (a_cons (i_var 0) (a_cons i_int a_nil)))) a_nil)) (g_name 4 sc_Lword.nd)
    (p_one (s_set (i := 3) sc_Lword.nd (i_op add_any sem_add (i_var 3) (i_ixS (i_var 2) (i_call (ok_Ldraw T) (hr.mono (by omega)) T.m_Ldraw T.F_Ldraw.kp T.b_Ldraw tk (a_cons (i_var 0) (a_cons i_int a_nil))))))))
    (p_cons (s_if (j_cmp op_in_seq (sem_in false) (i_var 3) (i_lst (l_lst (a_cons i_str (a_cons i_str (a_cons i_str (a_cons i_str (a_cons i_str (a_cons i_str (a_cons i_str (a_cons i_str (a_cons i_str (a_cons i_str (a_cons i_str a_nil))))))))))))) (by rfl)) (p_one (s_set (i := 3) sc_Lword.nd (i_op add_any sem_add (i_var 3) i_str)))
    p_nil)
    (p_one (s_ret (i_var 3))))))))
  exact key
theorem ok_Lnumber (T : Txt Γ mg) : FnOk P wo Γ.K mg base (L2.CX P wo) 3 T.a_Lnumber T.d_Lnumber ["_law_pool_here"] (spI Γ 1 f_Lnumber) := by
  have key : FnOk P wo Γ.K mg base (L2.CX P wo) (2 + 1) T.a_Lnumber T.d_Lnumber ["_law_pool_here"] (spI Γ (["_law_pool_here"] : List Str).length (runDef N_Lnumber.length .pur (b_Lnumber))) := by
    refine fn_i (m := .pur) (ς := b_Lnumber) T.F_Lnumber sc_Lnumber (fun cdv A outer s H E hr => ?_)
    have tk : Takes (cxOf (L2.CX P wo) P wo Γ.K mg base N_Lnumber "_law_number" (defScope s_Lnumber) T.a_Lnumber cdv A outer s H E) (fun c d _ H' => E c d H') := takes_of rfl rfl rfl rfl
    unfold b_Lnumber
    exact (p_cons (s_set (i := 1) sc_Lnumber.nd (i_ix rfl (i_lst (l_lst (a_cons i_int (a_cons (i_call (ok_Ldraw T) (hr.mono (by omega)) T.m_Ldraw T.F_Ldraw.kp T.b_Ldraw tk (a_cons (i_var 0) (a_cons i_int a_nil))) (a_cons (i_call (ok_Ldraw T) (hr.mono (by omega)) T.m_Ldraw T.F_Ldraw.kp T.b_Ldraw tk (a_cons (i_var 0) (a_cons (i_op op_pow sem_pow i_int i_int) a_nil))) (a_cons (i_call (ok_Ldraw T) (hr.mono (by omega)) T.m_Ldraw T.F_Ldraw.kp T.b_Ldraw tk (a_cons (i_var 0) (a_cons (i_op op_pow sem_pow i_int i_int) a_nil))) a_nil)))))) (i_call (ok_Ldraw T) (hr.mono (by omega)) T.m_Ldraw T.F_Ldraw.kp T.b_Ldraw tk (a_cons (i_var 0) (a_cons i_int a_nil)))))
    (p_one (s_ret (i_ix rfl (i_lst (l_lst (a_cons (i_var 1) (a_cons (i_un un_neg sem_neg (i_var 1)) a_nil)))) (i_call (ok_Ldraw T) (hr.mono (by omega)) T.m_Ldraw T.F_Ldraw.kp T.b_Ldraw tk (a_cons (i_var 0) (a_cons i_int a_nil)))))))
  exact key
theorem ok_Lbits (T : Txt Γ mg) : FnOk P wo Γ.K mg base (L2.CX P wo) 1 T.a_Lbits T.d_Lbits ["_law_index", "_law_many"] (spI Γ 2 f_Lbits) := by
  have key : FnOk P wo Γ.K mg base (L2.CX P wo) (0 + 1) T.a_Lbits T.d_Lbits ["_law_index", "_law_many"] (spI Γ (["_law_index", "_law_many"] : List Str).length (runDef N_Lbits.length .pur (b_Lbits))) := by
    refine fn_i (m := .pur) (ς := b_Lbits) T.F_Lbits sc_Lbits (fun cdv A outer s H E hr => ?_)
    have tk : Takes (cxOf (L2.CX P wo) P wo Γ.K mg base N_Lbits "_law_bits" (defScope s_Lbits) T.a_Lbits cdv A outer s H E) (fun c d _ H' => E c d H') := takes_of rfl rfl rfl rfl
    unfold b_Lbits
    exact (p_cons (s_set (i := 2) sc_Lbits.nd (i_new (l_lst a_nil)))
    (p_cons (s_for (passes_of rfl) rfl (w_range1 T.z_range (a_cons (i_var 1) a_nil)) (g_name 3 sc_Lbits.nd)
    (p_cons (s_expr (i_bm rfl PySem.F.plainAttrs_list PySem.F.slot_list_append PySem.F.type_list_append mt_append sem_app (i_var 2) (a_cons (i_cmp (op_eqD hr.units) sem_eq (i_op op_mod sem_mod (i_ct call_int1 sem_int T.z_int (a_cons (i_var 0) a_nil)) i_int) i_int (nomark _)) a_nil)))
    (p_one (s_set (i := 0) sc_Lbits.nd (i_op op_fdivW sem_div (i_var 0) i_int)))))
    (p_one (s_ret (i_ct call_tuple_of sem_tup T.z_tuple (a_cons (i_var 2) a_nil))))))
  exact key
theorem ok_Lmargin (T : Txt Γ mg) : FnOk P wo Γ.K mg base (L2.CX P wo) 4 T.a_Lmargin T.d_Lmargin ["_law_pool_here"] (spI Γ 1 f_Lmargin) := by
  have key : FnOk P wo Γ.K mg base (L2.CX P wo) (3 + 1) T.a_Lmargin T.d_Lmargin ["_law_pool_here"] (spI Γ (["_law_pool_here"] : List Str).length (runDef N_Lmargin.length .pur (b_Lmargin))) := by
    refine fn_i (m := .pur) (ς := b_Lmargin) T.F_Lmargin sc_Lmargin (fun cdv A outer s H E hr => ?_)
    have tk : Takes (cxOf (L2.CX P wo) P wo Γ.K mg base N_Lmargin "_law_margin" (defScope s_Lmargin) T.a_Lmargin cdv A outer s H E) (fun c d _ H' => E c d H') := takes_of rfl rfl rfl rfl
    unfold b_Lmargin
    exact (p_one (s_ret (i_ix rfl (i_lst (l_lst (a_cons i_non (a_cons (i_call (ok_Lnumber T) (hr.mono (by omega)) T.m_Lnumber T.F_Lnumber.kp T.b_Lnumber tk (a_cons (i_var 0) a_nil)) (a_cons (i_call (ok_Lnumber T) (hr.mono (by omega)) T.m_Lnumber T.F_Lnumber.kp T.b_Lnumber tk (a_cons (i_var 0) a_nil)) a_nil))))) (i_call (ok_Ldraw T) (hr.mono (by omega)) T.m_Ldraw T.F_Ldraw.kp T.b_Ldraw tk (a_cons (i_var 0) (a_cons i_int a_nil))))))
  exact key
theorem ok_Lreport (T : Txt Γ mg) : FnOk P wo Γ.K mg base (L2.CX P wo) 5 T.a_Lreport T.d_Lreport ["_law_pool_here"] (spI Γ 1 f_Lreport) := by
  have key : FnOk P wo Γ.K mg base (L2.CX P wo) (4 + 1) T.a_Lreport T.d_Lreport ["_law_pool_here"] (spI Γ (["_law_pool_here"] : List Str).length (runDef N_Lreport.length .pur (b_Lreport))) := by
    refine fn_i (m := .pur) (ς := b_Lreport) T.F_Lreport sc_Lreport (fun cdv A outer s H E hr => ?_)
    have tk : Takes (cxOf (L2.CX P wo) P wo Γ.K mg base N_Lreport "_law_report" (defScope s_Lreport) T.a_Lreport cdv A outer s H E) (fun c d _ H' => E c d H') := takes_of rfl rfl rfl rfl
    unfold b_Lreport
    exact (p_cons (s_set (i := 1) sc_Lreport.nd (i_new (l_lst a_nil)))
    (p_cons (s_set (i := 2) sc_Lreport.nd (i_call (ok_Ldraw T) (hr.mono (by omega)) T.m_Ldraw T.F_Ldraw.kp T.b_Ldraw tk (a_cons (i_var 0) (a_cons i_int a_nil))))
    (p_cons (s_for (passes_of rfl) rfl (w_range1 T.z_range (a_cons (i_call (ok_Ldraw T) (hr.mono (by omega)) T.m_Ldraw T.F_Ldraw.kp T.b_Ldraw tk (a_cons (i_var 0) (a_cons i_int a_nil))) a_nil)) (g_name 3 sc_Lreport.nd)
    (p_cons (s_set (i := 4) sc_Lreport.nd (i_bm rfl PySem.F.plainAttrs_str PySem.F.slot_str_join PySem.F.type_str_join mt_join sem_join i_str (a_cons (i_lst (l_lc (own := [("_law_j", 6)]) rfl sc_Lreport.nd (w_range1 T.z_range (a_cons (i_op add_any sem_add i_int (i_call (ok_Ldraw T) (hr.mono (by omega)) T.m_Ldraw T.F_Ldraw.kp T.b_Ldraw tk (a_cons (i_var 0) (a_cons i_int a_nil)))) a_nil)) (blkOk_by (N := N_Lreport) (sc := defScope s_Lreport) (by decide +kernel)) (fun _ _ _ _ _ => (g_name 6 sc_Lreport.nd)) (fun _ _ _ _ _ => ts_nil) (fun _ _ _ _ _ => (i_call (ok_Lword T) (hr.mono (by omega)) T.m_Lword T.F_Lword.kp T.b_Lword takes0 (a_cons (i_var 0) a_nil))))) a_nil)))
    (p_cons (s_while (passes_of rfl) (j_cmp op_in_seq (sem_in false) (i_var 4) (i_lst (l_lc (own := [("_law_row", 7)]) rfl sc_Lreport.nd (w_seq rfl (i_var 1)) (blkOk_by (N := N_Lreport) (sc := defScope s_Lreport) (by decide +kernel)) (fun _ _ _ _ _ => (g_name 7 sc_Lreport.nd)) (fun _ _ _ _ _ => ts_nil) (fun _ _ _ _ _ => (i_ix rfl (i_var 7) i_int)))) (by rfl))
    (p_one (s_set (i := 4) sc_Lreport.nd (i_op add_any sem_add (i_var 4) i_str))))
    (p_cons (s_set (i := 5) sc_Lreport.nd i_non)
    (p_cons (s_if (j_cmp (op_eqD hr.units) sem_eq (i_call (ok_Ldraw T) (hr.mono (by omega)) T.m_Ldraw T.F_Ldraw.kp T.b_Ldraw tk (a_cons (i_var 0) (a_cons i_int a_nil))) i_int (nomark _)) (p_one (s_set (i := 5) sc_Lreport.nd (i_tup (a_cons (i_call (ok_Lnumber T) (hr.mono (by omega)) T.m_Lnumber T.F_Lnumber.kp T.b_Lnumber tk (a_cons (i_var 0) a_nil)) (a_cons (i_call (ok_Lbits T) (hr.mono (by omega)) T.m_Lbits T.F_Lbits.kp T.b_Lbits tk (a_cons (i_call (ok_Ldraw T) (hr.mono (by omega)) T.m_Ldraw T.F_Ldraw.kp T.b_Ldraw tk (a_cons (i_var 0) (a_cons i_int a_nil))) (a_cons (i_var 2) a_nil))) a_nil)))))
    p_nil)
    (p_one (s_expr (i_bm rfl PySem.F.plainAttrs_list PySem.F.slot_list_append PySem.F.type_list_append mt_append sem_app (i_var 1) (a_cons (i_tup (a_cons (i_var 4) (a_cons (i_call (ok_Lmargin T) (hr.mono (by omega)) T.m_Lmargin T.F_Lmargin.kp T.b_Lmargin tk (a_cons (i_var 0) a_nil)) (a_cons (i_call (ok_Lmargin T) (hr.mono (by omega)) T.m_Lmargin T.F_Lmargin.kp T.b_Lmargin tk (a_cons (i_var 0) a_nil)) (a_cons (i_var 5) a_nil))))) a_nil)))))))))
    (p_one (s_ret (i_tup (a_cons (i_call (ok_Lword T) (hr.mono (by omega)) T.m_Lword T.F_Lword.kp T.b_Lword tk (a_cons (i_var 0) a_nil)) (a_cons (i_op add_any sem_add i_int (i_call (ok_Ldraw T) (hr.mono (by omega)) T.m_Ldraw T.F_Ldraw.kp T.b_Ldraw tk (a_cons (i_var 0) (a_cons (i_op op_pow sem_pow i_int i_int) a_nil)))) (a_cons (i_ct call_tuple_of sem_tup T.z_tuple (a_cons (i_var 1) a_nil)) a_nil)))))))))
  exact key
theorem ok_Lshown (T : Txt Γ mg) : FnOk P wo Γ.K mg base (L2.CX P wo) 1 T.a_Lshown T.d_Lshown ["_law_value"] (spI Γ 1 f_Lshown) := by
  have key : FnOk P wo Γ.K mg base (L2.CX P wo) (0 + 1) T.a_Lshown T.d_Lshown ["_law_value"] (spI Γ (["_law_value"] : List Str).length (runDef N_Lshown.length .pur (b_Lshown))) := by
    refine fn_i (m := .pur) (ς := b_Lshown) T.F_Lshown sc_Lshown (fun cdv A outer s H E hr => ?_)
    have tk : Takes (cxOf (L2.CX P wo) P wo Γ.K mg base N_Lshown "_law_shown" (defScope s_Lshown) T.a_Lshown cdv A outer s H E) (fun c d _ H' => E c d H') := takes_of rfl rfl rfl rfl
    unfold b_Lshown
    exact (p_cons (s_if (j_cmp op_isN sem_isN (i_var 0) i_non (nomark _)) (p_one (s_ret i_str))
    p_nil)
    (p_one (s_ret (i_ct cr_str sem_str T.z_str (a_cons (i_var 0) a_nil)))))
  exact key
theorem ok_Ltext (T : Txt Γ mg) : FnOk P wo Γ.K mg base (L2.CX P wo) 2 T.a_Ltext T.d_Ltext ["_law_report_here"] (spI Γ 1 f_Ltext) := by
  have key : FnOk P wo Γ.K mg base (L2.CX P wo) (1 + 1) T.a_Ltext T.d_Ltext ["_law_report_here"] (spI Γ (["_law_report_here"] : List Str).length (runDef N_Ltext.length .pur (b_Ltext))) := by
    refine fn_i (m := .pur) (ς := b_Ltext) T.F_Ltext sc_Ltext (fun cdv A outer s H E hr => ?_)
    have tk : Takes (cxOf (L2.CX P wo) P wo Γ.K mg base N_Ltext "_law_text" (defScope s_Ltext) T.a_Ltext cdv A outer s H E) (fun c d _ H' => E c d H') := takes_of rfl rfl rfl rfl
    unfold b_Ltext
    exact (p_cons (s_set (i := 1) sc_Ltext.nd (i_op add_any sem_add (i_op add_any sem_add (i_op add_any sem_add (i_op add_any sem_add i_str (i_ix rfl (i_var 0) i_int)) i_str) (i_ct cr_str sem_str T.z_str (a_cons (i_ix rfl (i_var 0) i_int) a_nil))) i_str))
    (p_cons (s_for (passes_of rfl) rfl (w_seq rfl (i_ix rfl (i_var 0) i_int)) (g_name 2 sc_Ltext.nd)
    (p_cons (s_set (i := 1) sc_Ltext.nd (i_op add_any sem_add (i_op add_any sem_add (i_op add_any sem_add (i_op add_any sem_add (i_op add_any sem_add (i_op add_any sem_add (i_var 1) i_str) (i_ix rfl (i_var 2) i_int)) i_str) (i_call (ok_Lshown T) (hr.mono (by omega)) T.m_Lshown T.F_Lshown.kp T.b_Lshown tk (a_cons (i_ix rfl (i_var 2) i_int) a_nil))) i_str) (i_call (ok_Lshown T) (hr.mono (by omega)) T.m_Lshown T.F_Lshown.kp T.b_Lshown tk (a_cons (i_ix rfl (i_var 2) i_int) a_nil))))
    (p_one (s_if (j_cmp op_isN sem_isN (i_ix rfl (i_var 2) i_int) i_non (nomark _)) (p_one (s_set (i := 1) sc_Ltext.nd (i_op add_any sem_add (i_var 1) i_str)))
    (p_cons (s_set (i := 3) sc_Ltext.nd (i_bm rfl PySem.F.plainAttrs_str PySem.F.slot_str_join PySem.F.type_str_join mt_join sem_join i_str (a_cons (i_lst (l_lc (own := [("_law_bit", 5)]) rfl sc_Ltext.nd (w_seq rfl (i_ix rfl (i_ix rfl (i_var 2) i_int) i_int)) (blkOk_by (N := N_Ltext) (sc := defScope s_Ltext) (by decide +kernel)) (fun _ _ _ _ _ => (g_name 5 sc_Ltext.nd)) (fun _ _ _ _ _ => ts_nil) (fun _ _ _ _ _ => (i_ix rfl (i_lst (l_lst (a_cons i_str (a_cons i_str a_nil)))) (i_ct call_int1 sem_int T.z_int (a_cons (i_var 5) a_nil)))))) a_nil)))
    (p_cons (s_if (j_cmp (op_eqD hr.units) sem_eq (i_var 3) i_str (nomark _)) (p_one (s_set (i := 3) sc_Ltext.nd i_str))
    p_nil)
    (p_one (s_set (i := 1) sc_Ltext.nd (i_op add_any sem_add (i_op add_any sem_add (i_op add_any sem_add (i_op add_any sem_add (i_op add_any sem_add (i_var 1) i_str) (i_ct cr_str sem_str T.z_str (a_cons (i_ix rfl (i_ix rfl (i_var 2) i_int) i_int) a_nil))) i_str) (i_var 3)) i_str)))))))))
    (p_cons (s_set (i := 4) sc_Ltext.nd (i_cmp (op_eqD hr.units) sem_eq (i_lst (l_lc (own := [("_law_row", 2)]) rfl sc_Ltext.nd (w_seq rfl (i_ix rfl (i_var 0) i_int)) (blkOk_by (N := N_Ltext) (sc := defScope s_Ltext) (by decide +kernel)) (fun _ _ _ _ _ => (g_name 2 sc_Ltext.nd)) (fun _ _ _ _ _ => (ts_one (j_cmp op_notN sem_notN (i_ix rfl (i_var 2) i_int) i_non (nomark _)))) (fun _ _ _ _ _ => (i_var 2)))) (i_lst (l_lst a_nil)) (nomark _)))
    (p_one (s_ret (i_op add_any sem_add (i_var 1) (i_ix rfl (i_lst (l_lst (a_cons i_str (a_cons i_str a_nil)))) (i_ct call_int1 sem_int T.z_int (a_cons (i_var 4) a_nil)))))))))
  exact key
theorem ok_Lsame (T : Txt Γ mg) : ∀ k : Nat, FnOk P wo Γ.K mg base (L2.CX P wo) (1 + k) T.a_Lsame T.d_Lsame ["_law_actual", "_law_due"] (spI Γ 2 (f_Lsame k))
  | 0 => ⟨fun vs H Q E h => h.1, fun A outer s H args us vs Q E _ _ _ _ h => by obtain ⟨_, _, _, _, _, _, h⟩ := h; exact h.elim⟩
  | k + 1 => by
    have ih : FnOk P wo Γ.K mg base (L2.CX P wo) (1 + k) T.a_Lsame T.d_Lsame ["_law_actual", "_law_due"] (spI Γ 2 (f_Lsame k)) := ok_Lsame T k
    have key : FnOk P wo Γ.K mg base (L2.CX P wo) (1 + k + 1) T.a_Lsame T.d_Lsame ["_law_actual", "_law_due"] (spI Γ (["_law_actual", "_law_due"] : List Str).length (runDef N_Lsame.length .pur (b_Lsame (f_Lsame k)))) := by
      refine fn_i (m := .pur) (ς := b_Lsame (f_Lsame k)) T.F_Lsame sc_Lsame (fun cdv A outer s H E hr => ?_)
      have tk : Takes (cxOf (L2.CX P wo) P wo Γ.K mg base N_Lsame "_law_same" (defScope s_Lsame) T.a_Lsame cdv A outer s H E) (fun c d _ H' => E c d H') := takes_of rfl rfl rfl rfl
      unfold b_Lsame
      exact (p_cons (s_if (PW.pt (jw_or (j_tru rfl (i_isi (T := "tuple") rfl rfl T.z_isinstance T.z_tuple (i_var 1))) (pw_or1 (j_tru rfl (i_isi (T := "list") rfl rfl T.z_isinstance T.z_list (i_var 1)))))) (p_cons (s_if (PW.pt (jw_or (j_cmp (op_neD hr.units) sem_ne (i_isi (T := "tuple") rfl rfl T.z_isinstance T.z_tuple (i_var 1)) (i_isi (T := "tuple") rfl rfl T.z_isinstance T.z_tuple (i_var 0)) (nomark _)) (pw_or1 (j_cmp (op_neD hr.units) sem_ne (i_isi (T := "list") rfl rfl T.z_isinstance T.z_list (i_var 1)) (i_isi (T := "list") rfl rfl T.z_isinstance T.z_list (i_var 0)) (nomark _))))) (p_one (s_ret i_bl))
      p_nil)
      (p_cons (s_if (j_cmp (op_neD hr.units) sem_ne (i_cb call_len sem_len T.z_len (a_cons (i_var 0) a_nil)) (i_cb call_len sem_len T.z_len (a_cons (i_var 1) a_nil)) (nomark _)) (p_one (s_ret i_bl))
      p_nil)
      (p_cons (s_for (passes_of rfl) rfl (w_range1 T.z_range (a_cons (i_cb call_len sem_len T.z_len (a_cons (i_var 1) a_nil)) a_nil)) (g_name 2 sc_Lsame.nd)
      (p_one (s_if (j_not (j_tru rfl (i_call ih hr T.m_Lsame T.F_Lsame.kp T.b_Lsame tk (a_cons (i_ix rfl (i_var 0) (i_var 2)) (a_cons (i_ix rfl (i_var 1) (i_var 2)) a_nil))))) (p_one (s_ret i_bl))
      p_nil)))
      (p_one (s_ret i_bl)))))
      p_nil)
      (p_cons (s_if (j_cmp op_isN sem_isN (i_var 1) i_non (nomark _)) (p_one (s_ret (i_cmp op_isN sem_isN (i_var 0) i_non (nomark _))))
      p_nil)
      (p_cons (s_if (j_tru rfl (i_isi (T := "bool") rfl rfl T.z_isinstance T.z_bool (i_var 1))) (p_one (s_ret (i_and (i_isi (T := "bool") rfl rfl T.z_isinstance T.z_bool (i_var 0)) (pe_one (i_cmp (op_eqD hr.units) sem_eq (i_var 0) (i_var 1) (nomark _))))))
      p_nil)
      (p_cons (s_if (j_tru rfl (i_isi (T := "int") rfl rfl T.z_isinstance T.z_int (i_var 1))) (p_one (s_ret (i_and (i_isi (T := "int") rfl rfl T.z_isinstance T.z_int (i_var 0)) (i_and (i_not (i_isi (T := "bool") rfl rfl T.z_isinstance T.z_bool (i_var 0))) (pe_one (i_cmp (op_eqD hr.units) sem_eq (i_var 0) (i_var 1) (nomark _)))))))
      p_nil)
      (p_one (s_ret (i_and (i_isi (T := "str") rfl rfl T.z_isinstance T.z_str (i_var 0)) (pe_one (i_cmp (op_eqD hr.units) sem_eq (i_var 0) (i_var 1) (nomark _))))))))))
    exact key
theorem ok_read_integer (T : Txt Γ mg) : FnOk P wo Γ.K mg base (L2.CX P wo) 1 T.a_read_integer T.d_read_integer ["word"] (spI Γ 1 f_read_integer) := by
  have key : FnOk P wo Γ.K mg base (L2.CX P wo) (0 + 1) T.a_read_integer T.d_read_integer ["word"] (spI Γ (["word"] : List Str).length (runDef N_read_integer.length .pur (b_read_integer))) := by
    refine fn_i (m := .pur) (ς := b_read_integer) T.F_read_integer sc_read_integer (fun cdv A outer s H E hr => ?_)
    have tk : Takes (cxOf (L2.CX P wo) P wo Γ.K mg base N_read_integer "read_integer" (defScope s_read_integer) T.a_read_integer cdv A outer s H E) (fun c d _ H' => E c d H') := takes_of rfl rfl rfl rfl
    unfold b_read_integer
    exact (p_cons (s_set (i := 1) sc_read_integer.nd (i_bm rfl PySem.F.plainAttrs_str PySem.F.slot_str_removeprefix PySem.F.type_str_removeprefix mt_removeprefix sem_remP (i_var 0) (a_cons i_str a_nil)))
    (p_cons (s_if (PW.pt (jw_or (j_cmp (op_eqD hr.units) sem_eq (i_var 1) i_str (nomark _)) (jw_or (j_cmp op_gt sem_gt (i_cb call_len sem_len T.z_len (a_cons (i_var 1) a_nil)) (i_gint T.v_MOST_DIGITS T.w_MOST_DIGITS) (nomark _)) (pw_or1 (PW.pt (jw_and (j_cmp (op_eqD hr.units) sem_eq (i_ixS (i_var 1) i_int) i_str (nomark _)) (pw_and1 (j_cmp (op_neD hr.units) sem_ne (i_var 0) i_str (nomark _))))))))) (p_one (s_raise rfl tk PySem.F.excBase_ValueError T.q_BadReport T.g_BadReport T.k_BadReport (raises_own T.b_BadReport T.t_BadReport) T.l_BadReport))
    p_nil)
    (p_cons (s_for (passes_of rfl) rfl (w_txt (i_var 1)) (g_name 2 sc_read_integer.nd)
    (p_one (s_if (j_cmp op_notInS sem_ninG (i_var 2) (i_gstr T.v_DIGITS T.w_DIGITS) (by rfl)) (p_one (s_raise rfl tk PySem.F.excBase_ValueError T.q_BadReport T.g_BadReport T.k_BadReport (raises_own T.b_BadReport T.t_BadReport) T.l_BadReport))
    p_nil)))
    (p_one (s_ret (i_ct call_int_str sem_intS T.z_int (a_cons (i_var 0) a_nil)))))))
  exact key
theorem ok_is_word (T : Txt Γ mg) : FnOk P wo Γ.K mg base (L2.CX P wo) 1 T.a_is_word T.d_is_word ["token"] (spI Γ 1 f_is_word) := by
  have key : FnOk P wo Γ.K mg base (L2.CX P wo) (0 + 1) T.a_is_word T.d_is_word ["token"] (spI Γ (["token"] : List Str).length (runDef N_is_word.length .pur (b_is_word))) := by
    refine fn_i (m := .pur) (ς := b_is_word) T.F_is_word sc_is_word (fun cdv A outer s H E hr => ?_)
    have tk : Takes (cxOf (L2.CX P wo) P wo Γ.K mg base N_is_word "is_word" (defScope s_is_word) T.a_is_word cdv A outer s H E) (fun c d _ H' => E c d H') := takes_of rfl rfl rfl rfl
    unfold b_is_word
    exact (p_one (s_ret (i_cmp op_inS sem_inG (i_ixS (i_var 0) i_int) (i_gstr T.v_LETTERS T.w_LETTERS) (by rfl))))
  exact key
theorem ok_is_name (T : Txt Γ mg) : FnOk P wo Γ.K mg base (L2.CX P wo) 2 T.a_is_name T.d_is_name ["token"] (spI Γ 1 f_is_name) := by
  have key : FnOk P wo Γ.K mg base (L2.CX P wo) (1 + 1) T.a_is_name T.d_is_name ["token"] (spI Γ (["token"] : List Str).length (runDef N_is_name.length .pur (b_is_name))) := by
    refine fn_i (m := .pur) (ς := b_is_name) T.F_is_name sc_is_name (fun cdv A outer s H E hr => ?_)
    have tk : Takes (cxOf (L2.CX P wo) P wo Γ.K mg base N_is_name "is_name" (defScope s_is_name) T.a_is_name cdv A outer s H E) (fun c d _ H' => E c d H') := takes_of rfl rfl rfl rfl
    unfold b_is_name
    exact (p_one (s_ret (i_and (i_call (ok_is_word T) (hr.mono (by omega)) T.m_is_word T.F_is_word.kp T.b_is_word tk (a_cons (i_var 0) a_nil)) (pe_one (i_cmp op_notIn_seq (sem_in true) (i_var 0) (i_gtup T.v_KEYWORDS T.w_KEYWORDS) (by rfl))))))
  exact key
theorem ok_read_name (T : Txt Γ mg) : FnOk P wo Γ.K mg base (L2.CX P wo) 3 T.a_read_name T.d_read_name ["word"] (spI Γ 1 f_read_name) := by
  have key : FnOk P wo Γ.K mg base (L2.CX P wo) (2 + 1) T.a_read_name T.d_read_name ["word"] (spI Γ (["word"] : List Str).length (runDef N_read_name.length .pur (b_read_name))) := by
    refine fn_i (m := .pur) (ς := b_read_name) T.F_read_name sc_read_name (fun cdv A outer s H E hr => ?_)
    have tk : Takes (cxOf (L2.CX P wo) P wo Γ.K mg base N_read_name "read_name" (defScope s_read_name) T.a_read_name cdv A outer s H E) (fun c d _ H' => E c d H') := takes_of rfl rfl rfl rfl
    unfold b_read_name
    exact (p_cons (s_for (passes_of rfl) rfl (w_txt (i_var 0)) (g_name 1 sc_read_name.nd)
    (p_one (s_if (j_cmp op_notInS sem_ninG (i_var 1) (i_gstr T.v_WORD_CHARS T.w_WORD_CHARS) (by rfl)) (p_one (s_raise rfl tk PySem.F.excBase_ValueError T.q_BadReport T.g_BadReport T.k_BadReport (raises_own T.b_BadReport T.t_BadReport) T.l_BadReport))
    p_nil)))
    (p_cons (s_if (PW.pt (jw_or (j_cmp (op_eqD hr.units) sem_eq (i_var 0) i_str (nomark _)) (pw_or1 (j_not (j_tru rfl (i_call (ok_is_name T) (hr.mono (by omega)) T.m_is_name T.F_is_name.kp T.b_is_name tk (a_cons (i_var 0) a_nil))))))) (p_one (s_raise rfl tk PySem.F.excBase_ValueError T.q_BadReport T.g_BadReport T.k_BadReport (raises_own T.b_BadReport T.t_BadReport) T.l_BadReport))
    p_nil)
    (p_one (s_ret (i_var 0)))))
  exact key
theorem ok_read_margin (T : Txt Γ mg) : FnOk P wo Γ.K mg base (L2.CX P wo) 2 T.a_read_margin T.d_read_margin ["word"] (spI Γ 1 f_read_margin) := by
  have key : FnOk P wo Γ.K mg base (L2.CX P wo) (1 + 1) T.a_read_margin T.d_read_margin ["word"] (spI Γ (["word"] : List Str).length (runDef N_read_margin.length .pur (b_read_margin))) := by
    refine fn_i (m := .pur) (ς := b_read_margin) T.F_read_margin sc_read_margin (fun cdv A outer s H E hr => ?_)
    have tk : Takes (cxOf (L2.CX P wo) P wo Γ.K mg base N_read_margin "read_margin" (defScope s_read_margin) T.a_read_margin cdv A outer s H E) (fun c d _ H' => E c d H') := takes_of rfl rfl rfl rfl
    unfold b_read_margin
    exact (p_one (s_ret (i_ifExp (j_cmp (op_eqD hr.units) sem_eq (i_var 0) i_str (nomark _)) i_non (i_call (ok_read_integer T) (hr.mono (by omega)) T.m_read_integer T.F_read_integer.kp T.b_read_integer tk (a_cons (i_var 0) a_nil)))))
  exact key
theorem ok_read_bits (T : Txt Γ mg) : FnOk P wo Γ.K mg base (L2.CX P wo) 1 T.a_read_bits T.d_read_bits ["word"] (spI Γ 1 f_read_bits) := by
  have key : FnOk P wo Γ.K mg base (L2.CX P wo) (0 + 1) T.a_read_bits T.d_read_bits ["word"] (spI Γ (["word"] : List Str).length (runDef N_read_bits.length .pur (b_read_bits))) := by
    refine fn_i (m := .pur) (ς := b_read_bits) T.F_read_bits sc_read_bits (fun cdv A outer s H E hr => ?_)
    have tk : Takes (cxOf (L2.CX P wo) P wo Γ.K mg base N_read_bits "read_bits" (defScope s_read_bits) T.a_read_bits cdv A outer s H E) (fun c d _ H' => E c d H') := takes_of rfl rfl rfl rfl
    unfold b_read_bits
    exact (p_cons (s_if (j_cmp (op_eqD hr.units) sem_eq (i_var 0) i_str (nomark _)) (p_one (s_ret (i_tup a_nil)))
    p_nil)
    (p_cons (s_for (passes_of rfl) rfl (w_txt (i_var 0)) (g_name 1 sc_read_bits.nd)
    (p_one (s_if (j_cmp op_notInS sem_ninG (i_var 1) i_str (by rfl)) (p_one (s_raise rfl tk PySem.F.excBase_ValueError T.q_BadReport T.g_BadReport T.k_BadReport (raises_own T.b_BadReport T.t_BadReport) T.l_BadReport))
    p_nil)))
    (p_cons (s_if (j_cmp (op_eqD hr.units) sem_eq (i_var 0) i_str (nomark _)) (p_one (s_raise rfl tk PySem.F.excBase_ValueError T.q_BadReport T.g_BadReport T.k_BadReport (raises_own T.b_BadReport T.t_BadReport) T.l_BadReport))
    p_nil)
    (p_one (s_ret (i_ct call_tuple_of sem_tup T.z_tuple (a_cons (i_lst (l_lc (own := [("char", 1)]) rfl sc_read_bits.nd (w_txt (i_var 0)) (blkOk_by (N := N_read_bits) (sc := defScope s_read_bits) (by decide +kernel)) (fun _ _ _ _ _ => (g_name 1 sc_read_bits.nd)) (fun _ _ _ _ _ => ts_nil) (fun _ _ _ _ _ => (i_cmp (op_eqD hr.units) sem_eq (i_var 1) i_str (nomark _))))) a_nil)))))))
  exact key
theorem ok_read_row (T : Txt Γ mg) : FnOk P wo Γ.K mg base (L2.CX P wo) 4 T.a_read_row T.d_read_row ["line"] (spI Γ 1 f_read_row) := by
  have key : FnOk P wo Γ.K mg base (L2.CX P wo) (3 + 1) T.a_read_row T.d_read_row ["line"] (spI Γ (["line"] : List Str).length (runDef N_read_row.length .pur (b_read_row))) := by
    refine fn_i (m := .pur) (ς := b_read_row) T.F_read_row sc_read_row (fun cdv A outer s H E hr => ?_)
    have tk : Takes (cxOf (L2.CX P wo) P wo Γ.K mg base N_read_row "read_row" (defScope s_read_row) T.a_read_row cdv A outer s H E) (fun c d _ H' => E c d H') := takes_of rfl rfl rfl rfl
    unfold b_read_row
    exact (p_cons (s_set (i := 1) sc_read_row.nd (i_lst (l_split (i_var 0) i_str)))
    (p_cons (s_if (PW.pt (jw_or (j_cmp op_notIn_seq (sem_in true) (i_cb call_len sem_len T.z_len (a_cons (i_var 1) a_nil)) (i_tup (a_cons i_int (a_cons i_int a_nil))) (by rfl)) (pw_or1 (j_cmp (op_neD hr.units) sem_ne (i_lst (l_lst (a_cons (i_ix rfl (i_var 1) i_int) (a_cons (i_ix rfl (i_var 1) i_int) (a_cons (i_ix rfl (i_var 1) i_int) a_nil))))) (i_lst (l_lst (a_cons i_str (a_cons i_str (a_cons i_str a_nil))))) (nomark _))))) (p_one (s_raise rfl tk PySem.F.excBase_ValueError T.q_BadReport T.g_BadReport T.k_BadReport (raises_own T.b_BadReport T.t_BadReport) T.l_BadReport))
    p_nil)
    (p_cons (s_for (passes_of rfl) rfl (w_seq rfl (i_lst (l_split (i_ix rfl (i_var 1) i_int) i_str))) (g_name 2 sc_read_row.nd)
    (p_one (s_expr (i_call (ok_read_name T) (hr.mono (by omega)) T.m_read_name T.F_read_name.kp T.b_read_name tk (a_cons (i_var 2) a_nil)))))
    (p_cons (s_set (i := 3) sc_read_row.nd i_non)
    (p_cons (s_if (j_cmp (op_eqD hr.units) sem_eq (i_cb call_len sem_len T.z_len (a_cons (i_var 1) a_nil)) i_int (nomark _)) (p_cons (s_if (j_cmp (op_neD hr.units) sem_ne (i_lst (l_lst (a_cons (i_ix rfl (i_var 1) i_int) (a_cons (i_ix rfl (i_var 1) i_int) (a_cons (i_ix rfl (i_var 1) i_int) a_nil))))) (i_lst (l_lst (a_cons i_str (a_cons i_str (a_cons i_str a_nil))))) (nomark _)) (p_one (s_raise rfl tk PySem.F.excBase_ValueError T.q_BadReport T.g_BadReport T.k_BadReport (raises_own T.b_BadReport T.t_BadReport) T.l_BadReport))
    p_nil)
    (p_one (s_set (i := 3) sc_read_row.nd (i_tup (a_cons (i_call (ok_read_integer T) (hr.mono (by omega)) T.m_read_integer T.F_read_integer.kp T.b_read_integer tk (a_cons (i_ix rfl (i_var 1) i_int) a_nil)) (a_cons (i_call (ok_read_bits T) (hr.mono (by omega)) T.m_read_bits T.F_read_bits.kp T.b_read_bits tk (a_cons (i_ix rfl (i_var 1) i_int) a_nil)) a_nil))))))
    (p_one (s_if (j_cmp (op_neD hr.units) sem_ne (i_ix rfl (i_var 1) i_int) i_str (nomark _)) (p_one (s_raise rfl tk PySem.F.excBase_ValueError T.q_BadReport T.g_BadReport T.k_BadReport (raises_own T.b_BadReport T.t_BadReport) T.l_BadReport))
    p_nil)))
    (p_one (s_ret (i_tup (a_cons (i_ix rfl (i_var 1) i_int) (a_cons (i_call (ok_read_margin T) (hr.mono (by omega)) T.m_read_margin T.F_read_margin.kp T.b_read_margin tk (a_cons (i_ix rfl (i_var 1) i_int) a_nil)) (a_cons (i_call (ok_read_margin T) (hr.mono (by omega)) T.m_read_margin T.F_read_margin.kp T.b_read_margin tk (a_cons (i_ix rfl (i_var 1) i_int) a_nil)) (a_cons (i_var 3) a_nil))))))))))))
  exact key
theorem ok_is_clean_report (T : Txt Γ mg) : FnOk P wo Γ.K mg base (L2.CX P wo) 1 T.a_is_clean_report T.d_is_clean_report ["report"] (spI Γ 1 f_is_clean_report) := by
  have key : FnOk P wo Γ.K mg base (L2.CX P wo) (0 + 1) T.a_is_clean_report T.d_is_clean_report ["report"] (spI Γ (["report"] : List Str).length (runDef N_is_clean_report.length .pur (b_is_clean_report))) := by
    refine fn_i (m := .pur) (ς := b_is_clean_report) T.F_is_clean_report sc_is_clean_report (fun cdv A outer s H E hr => ?_)
    have tk : Takes (cxOf (L2.CX P wo) P wo Γ.K mg base N_is_clean_report "is_clean_report" (defScope s_is_clean_report) T.a_is_clean_report cdv A outer s H E) (fun c d _ H' => E c d H') := takes_of rfl rfl rfl rfl
    unfold b_is_clean_report
    exact (p_one (s_ret (i_cmp (op_eqD hr.units) sem_eq (i_lst (l_lc (own := [("row", 1)]) rfl sc_is_clean_report.nd (w_seq rfl (i_ix rfl (i_var 0) i_int)) (blkOk_by (N := N_is_clean_report) (sc := defScope s_is_clean_report) (by decide +kernel)) (fun _ _ _ _ _ => (g_name 1 sc_is_clean_report.nd)) (fun _ _ _ _ _ => (ts_one (j_cmp op_notN sem_notN (i_ix rfl (i_var 1) i_int) i_non (nomark _)))) (fun _ _ _ _ _ => (i_var 1)))) (i_lst (l_lst a_nil)) (nomark _))))
  exact key
theorem ok_read_report (T : Txt Γ mg) : FnOk P wo Γ.K mg base (L2.CX P wo) 5 T.a_read_report T.d_read_report ["text"] (spI Γ 1 f_read_report) := by
  have key : FnOk P wo Γ.K mg base (L2.CX P wo) (4 + 1) T.a_read_report T.d_read_report ["text"] (spI Γ (["text"] : List Str).length (runDef N_read_report.length .pur (b_read_report))) := by
    refine fn_i (m := .pur) (ς := b_read_report) T.F_read_report sc_read_report (fun cdv A outer s H E hr => ?_)
    have tk : Takes (cxOf (L2.CX P wo) P wo Γ.K mg base N_read_report "read_report" (defScope s_read_report) T.a_read_report cdv A outer s H E) (fun c d _ H' => E c d H') := takes_of rfl rfl rfl rfl
    unfold b_read_report
    exact (p_cons (s_set (i := 1) sc_read_report.nd (i_lst (l_split (i_var 0) i_str)))
    (p_cons (s_set (i := 2) sc_read_report.nd (i_lst (l_split (i_ix rfl (i_var 1) i_int) i_str)))
    (p_cons (s_if (PW.pt (jw_or (j_cmp op_lt sem_lt (i_cb call_len sem_len T.z_len (a_cons (i_var 1) a_nil)) i_int (nomark _)) (jw_or (j_cmp (op_neD hr.units) sem_ne (i_ix rfl (i_var 1) (i_un un_neg sem_neg i_int)) i_str (nomark _)) (jw_or (j_cmp (op_neD hr.units) sem_ne (i_cb call_len sem_len T.z_len (a_cons (i_var 2) a_nil)) i_int (nomark _)) (pw_or1 (j_cmp (op_neD hr.units) sem_ne (i_lst (l_lst (a_cons (i_ix rfl (i_var 2) i_int) (a_cons (i_ix rfl (i_var 2) i_int) a_nil)))) (i_lst (l_lst (a_cons i_str (a_cons i_str a_nil)))) (nomark _))))))) (p_one (s_raise rfl tk PySem.F.excBase_ValueError T.q_BadReport T.g_BadReport T.k_BadReport (raises_own T.b_BadReport T.t_BadReport) T.l_BadReport))
    p_nil)
    (p_cons (s_set (i := 3) sc_read_report.nd (i_call (ok_read_integer T) (hr.mono (by omega)) T.m_read_integer T.F_read_integer.kp T.b_read_integer tk (a_cons (i_ix rfl (i_var 2) i_int) a_nil)))
    (p_cons (s_setLc (i := 4) (own := [("line", 7)]) w_lst rfl sc_read_report.nd rfl rfl (sw_true rfl rfl rfl (by decide +kernel)) (w_seq rfl (i_lst (l_sl rfl (i_var 1) (o_some i_int) (o_some (i_un un_neg sem_neg i_int))))) (blkOk_by (N := N_read_report) (sc := defScope s_read_report) (by decide +kernel)) (fun _ _ _ _ _ => (g_name 7 sc_read_report.nd)) (fun _ _ _ _ _ => ts_nil) (fun _ _ _ _ _ => (i_call (ok_read_row T) (hr.mono (by omega)) T.m_read_row T.F_read_row.kp T.b_read_row takes0 (a_cons (i_var 7) a_nil))))
    (p_cons (s_set (i := 5) sc_read_report.nd (i_tup (a_cons (i_call (ok_read_name T) (hr.mono (by omega)) T.m_read_name T.F_read_name.kp T.b_read_name tk (a_cons (i_ix rfl (i_var 2) i_int) a_nil)) (a_cons (i_var 3) (a_cons (i_ct call_tuple_of sem_tup T.z_tuple (a_cons (i_var 4) a_nil)) a_nil)))))
    (p_cons (s_set (i := 6) sc_read_report.nd (i_lst (l_sortU rfl rfl T.z_sorted T.z_set (i_lst (l_lc (own := [("row", 8)]) rfl sc_read_report.nd (w_seq rfl (i_var 4)) (blkOk_by (N := N_read_report) (sc := defScope s_read_report) (by decide +kernel)) (fun _ _ _ _ _ => (g_name 8 sc_read_report.nd)) (fun _ _ _ _ _ => (ts_one (j_cmp op_notN sem_notN (i_ix rfl (i_var 8) i_int) i_non (nomark _)))) (fun _ _ _ _ _ => (i_cb call_len sem_len T.z_len (a_cons (i_ix rfl (i_ix rfl (i_var 8) i_int) i_int) a_nil))))))))
    (p_cons (s_if (PW.pt (jw_or (j_cmp op_lt sem_lt (i_var 3) i_int (nomark _)) (jw_or (j_cmp op_gt sem_gt (i_cb call_len sem_len T.z_len (a_cons (i_var 6) a_nil)) i_int (nomark _)) (pw_or1 (j_cmp op_lt sem_lt (i_lenSet rfl rfl T.z_len T.z_set (i_lst (l_lc (own := [("row", 8)]) rfl sc_read_report.nd (w_seq rfl (i_var 4)) (blkOk_by (N := N_read_report) (sc := defScope s_read_report) (by decide +kernel)) (fun _ _ _ _ _ => (g_name 8 sc_read_report.nd)) (fun _ _ _ _ _ => ts_nil) (fun _ _ _ _ _ => (i_ix rfl (i_var 8) i_int))))) (i_cb call_len sem_len T.z_len (a_cons (i_var 4) a_nil)) (nomark _)))))) (p_one (s_raise rfl tk PySem.F.excBase_ValueError T.q_BadReport T.g_BadReport T.k_BadReport (raises_own T.b_BadReport T.t_BadReport) T.l_BadReport))
    p_nil)
    (p_cons (s_if (j_cmp (op_neD hr.units) sem_ne (i_ix rfl (i_var 1) (i_un un_neg sem_neg i_int)) (i_ifExp (j_tru rfl (i_call (ok_is_clean_report T) (hr.mono (by omega)) T.m_is_clean_report T.F_is_clean_report.kp T.b_is_clean_report tk (a_cons (i_var 5) a_nil))) i_str i_str) (nomark _)) (p_one (s_raise rfl tk PySem.F.excBase_ValueError T.q_BadReport T.g_BadReport T.k_BadReport (raises_own T.b_BadReport T.t_BadReport) T.l_BadReport))
    p_nil)
    (p_one (s_ret (i_var 5))))))))))))
  exact key
theorem ok_show_margin (T : Txt Γ mg) : FnOk P wo Γ.K mg base (L2.CX P wo) 1 T.a_show_margin T.d_show_margin ["margin"] (spI Γ 1 f_show_margin) := by
  have key : FnOk P wo Γ.K mg base (L2.CX P wo) (0 + 1) T.a_show_margin T.d_show_margin ["margin"] (spI Γ (["margin"] : List Str).length (runDef N_show_margin.length .pur (b_show_margin))) := by
    refine fn_i (m := .pur) (ς := b_show_margin) T.F_show_margin sc_show_margin (fun cdv A outer s H E hr => ?_)
    have tk : Takes (cxOf (L2.CX P wo) P wo Γ.K mg base N_show_margin "show_margin" (defScope s_show_margin) T.a_show_margin cdv A outer s H E) (fun c d _ H' => E c d H') := takes_of rfl rfl rfl rfl
    unfold b_show_margin
    exact (p_one (s_ret (i_ifExp (j_cmp op_isN sem_isN (i_var 0) i_non (nomark _)) i_str (i_ct cr_str sem_str T.z_str (a_cons (i_var 0) a_nil)))))
  exact key
theorem ok_show_bits (T : Txt Γ mg) : FnOk P wo Γ.K mg base (L2.CX P wo) 1 T.a_show_bits T.d_show_bits ["vector"] (spI Γ 1 f_show_bits) := by
  have key : FnOk P wo Γ.K mg base (L2.CX P wo) (0 + 1) T.a_show_bits T.d_show_bits ["vector"] (spI Γ (["vector"] : List Str).length (runDef N_show_bits.length .pur (b_show_bits))) := by
    refine fn_i (m := .pur) (ς := b_show_bits) T.F_show_bits sc_show_bits (fun cdv A outer s H E hr => ?_)
    have tk : Takes (cxOf (L2.CX P wo) P wo Γ.K mg base N_show_bits "show_bits" (defScope s_show_bits) T.a_show_bits cdv A outer s H E) (fun c d _ H' => E c d H') := takes_of rfl rfl rfl rfl
    unfold b_show_bits
    exact (p_one (s_ret (i_ifExp (j_tru rfl (i_var 0)) (i_bm rfl PySem.F.plainAttrs_str PySem.F.slot_str_join PySem.F.type_str_join mt_join sem_join i_str (a_cons (i_lst (l_lc (own := [("bit", 1)]) rfl sc_show_bits.nd (w_seq rfl (i_var 0)) (blkOk_by (N := N_show_bits) (sc := defScope s_show_bits) (by decide +kernel)) (fun _ _ _ _ _ => (g_name 1 sc_show_bits.nd)) (fun _ _ _ _ _ => ts_nil) (fun _ _ _ _ _ => (i_ifExp (j_tru rfl (i_var 1)) i_str i_str)))) a_nil)) i_str)))
  exact key
theorem ok_write_report (T : Txt Γ mg) : FnOk P wo Γ.K mg base (L2.CX P wo) 2 T.a_write_report T.d_write_report ["report"] (spI Γ 1 f_write_report) := by
  have key : FnOk P wo Γ.K mg base (L2.CX P wo) (1 + 1) T.a_write_report T.d_write_report ["report"] (spI Γ (["report"] : List Str).length (runDef N_write_report.length .pur (b_write_report))) := by
    refine fn_i (m := .pur) (ς := b_write_report) T.F_write_report sc_write_report (fun cdv A outer s H E hr => ?_)
    have tk : Takes (cxOf (L2.CX P wo) P wo Γ.K mg base N_write_report "write_report" (defScope s_write_report) T.a_write_report cdv A outer s H E) (fun c d _ H' => E c d H') := takes_of rfl rfl rfl rfl
    unfold b_write_report
    exact (p_cons (s_asg (i_var 0) (g_tup rfl rfl (gs_cons (g_name 1 sc_write_report.nd) (gs_cons (g_name 2 sc_write_report.nd) (gs_cons (g_name 3 sc_write_report.nd) gs_nil)))))
    (p_cons (s_set (i := 4) sc_write_report.nd (i_new (l_lst (a_cons (i_join (.cons i_str (.cons (i_fmt (i_var 1)) (.cons i_str (.cons (i_fmt (i_var 2)) .nil))))) a_nil))))
    (p_cons (s_for (passes_of rfl) rfl (w_seq rfl (i_var 3)) (g_tup rfl rfl (gs_cons (g_name 5 sc_write_report.nd) (gs_cons (g_name 6 sc_write_report.nd) (gs_cons (g_name 7 sc_write_report.nd) (gs_cons (g_name 8 sc_write_report.nd) gs_nil)))))
    (p_cons (s_set (i := 9) sc_write_report.nd (i_join (.cons i_str (.cons (i_fmt (i_var 5)) (.cons i_str (.cons (i_fmt (i_call (ok_show_margin T) (hr.mono (by omega)) T.m_show_margin T.F_show_margin.kp T.b_show_margin tk (a_cons (i_var 6) a_nil))) (.cons i_str (.cons (i_fmt (i_call (ok_show_margin T) (hr.mono (by omega)) T.m_show_margin T.F_show_margin.kp T.b_show_margin tk (a_cons (i_var 7) a_nil))) .nil))))))))
    (p_one (s_if (j_cmp op_isN sem_isN (i_var 8) i_non (nomark _)) (p_one (s_expr (i_bm rfl PySem.F.plainAttrs_list PySem.F.slot_list_append PySem.F.type_list_append mt_append sem_app (i_var 4) (a_cons (i_op add_any sem_add (i_var 9) i_str) a_nil))))
    (p_one (s_expr (i_bm rfl PySem.F.plainAttrs_list PySem.F.slot_list_append PySem.F.type_list_append mt_append sem_app (i_var 4) (a_cons (i_join (.cons (i_fmt (i_var 9)) (.cons i_str (.cons (i_fmt (i_ix rfl (i_var 8) i_int)) (.cons i_str (.cons (i_fmt (i_call (ok_show_bits T) (hr.mono (by omega)) T.m_show_bits T.F_show_bits.kp T.b_show_bits tk (a_cons (i_ix rfl (i_var 8) i_int) a_nil))) .nil)))))) a_nil))))))))
    (p_cons (s_expr (i_bm rfl PySem.F.plainAttrs_list PySem.F.slot_list_append PySem.F.type_list_append mt_append sem_app (i_var 4) (a_cons (i_ifExp (j_tru rfl (i_call (ok_is_clean_report T) (hr.mono (by omega)) T.m_is_clean_report T.F_is_clean_report.kp T.b_is_clean_report tk (a_cons (i_var 0) a_nil))) i_str i_str) a_nil)))
    (p_one (s_ret (i_bm rfl PySem.F.plainAttrs_str PySem.F.slot_str_join PySem.F.type_str_join mt_join sem_join i_str (a_cons (i_lst (l_lc (own := [("line", 9)]) rfl sc_write_report.nd (w_seq rfl (i_var 4)) (blkOk_by (N := N_write_report) (sc := defScope s_write_report) (by decide +kernel)) (fun _ _ _ _ _ => (g_name 9 sc_write_report.nd)) (fun _ _ _ _ _ => ts_nil) (fun _ _ _ _ _ => (i_op add_any sem_add (i_var 9) i_str)))) a_nil))))))))
  exact key
theorem ok_law {a_law : Addr} {d_law : FuncData} (T : Txt Γ mg) (F_law : Fun Γ.K "law" "law" s_law a_law d_law) : FnOk P wo Γ.K mg base (L2.CX P wo) 10 a_law d_law ["_law_script"] (spI Γ 1 f_law) := by
  have key : FnOk P wo Γ.K mg base (L2.CX P wo) (9 + 1) a_law d_law ["_law_script"] (spI Γ (["_law_script"] : List Str).length (runDef N_law.length .pur (b_law))) := by
    refine fn_i (m := .pur) (ς := b_law) F_law sc_law (fun cdv A outer s H E hr => ?_)
    have tk : Takes (cxOf (L2.CX P wo) P wo Γ.K mg base N_law "law" (defScope s_law) a_law cdv A outer s H E) (fun c d _ H' => E c d H') := takes_of rfl rfl rfl rfl
    unfold b_law
    exact (p_cons (s_set (i := 1) sc_law.nd (i_call (ok_Lpool T) (hr.mono (by omega)) T.m_Lpool T.F_Lpool.kp T.b_Lpool tk (a_cons (i_var 0) a_nil)))
    (p_cons (s_for (passes_of rfl) rfl (w_range1 T.z_range (a_cons i_int a_nil)) (g_name 2 sc_law.nd)
    (p_cons (s_set (i := 3) sc_law.nd (i_call (ok_Lreport T) (hr.mono (by omega)) T.m_Lreport T.F_Lreport.kp T.b_Lreport tk (a_cons (i_var 1) a_nil)))
    (p_cons (s_set (i := 4) sc_law.nd (i_call (ok_Ltext T) (hr.mono (by omega)) T.m_Ltext T.F_Ltext.kp T.b_Ltext tk (a_cons (i_var 3) a_nil)))
    (p_cons (s_set (i := 5) sc_law.nd (i_cmp (op_eqD hr.units) sem_eq (i_lst (l_lc (own := [("_law_row", 6)]) rfl sc_law.nd (w_seq rfl (i_ix rfl (i_var 3) i_int)) (blkOk_by (N := N_law) (sc := defScope s_law) (by decide +kernel)) (fun _ _ _ _ _ => (g_name 6 sc_law.nd)) (fun _ _ _ _ _ => (ts_one (j_cmp op_notN sem_notN (i_ix rfl (i_var 6) i_int) i_non (nomark _)))) (fun _ _ _ _ _ => (i_var 6)))) (i_lst (l_lst a_nil)) (nomark _)))
    (p_cons (s_if (PW.pt (jw_or (j_not (j_tru rfl (i_call (ok_Lsame T 8) (hr.mono (by omega)) T.m_Lsame T.F_Lsame.kp T.b_Lsame tk (a_cons (i_call (ok_write_report T) (hr.mono (by omega)) T.m_write_report T.F_write_report.kp T.b_write_report tk (a_cons (i_var 3) a_nil)) (a_cons (i_var 4) a_nil))))) (pw_or1 (j_not (j_tru rfl (i_call (ok_Lsame T 8) (hr.mono (by omega)) T.m_Lsame T.F_Lsame.kp T.b_Lsame tk (a_cons (i_call (ok_is_clean_report T) (hr.mono (by omega)) T.m_is_clean_report T.F_is_clean_report.kp T.b_is_clean_report tk (a_cons (i_var 3) a_nil)) (a_cons (i_var 5) a_nil)))))))) (p_one (s_ret i_bl))
    p_nil)
    (p_one (s_if (j_not (j_tru rfl (i_call (ok_Lsame T 8) (hr.mono (by omega)) T.m_Lsame T.F_Lsame.kp T.b_Lsame tk (a_cons (i_call (ok_read_report T) (hr.mono (by omega)) T.m_read_report T.F_read_report.kp T.b_read_report tk (a_cons (i_var 4) a_nil)) (a_cons (i_var 3) a_nil))))) (p_one (s_ret i_bl))
    p_nil)))))))
    (p_one (s_ret i_bl))))
  exact key
end
theorem all_mk {l : PySem.W.OpenLaw} {w : World} {K : PySem.W.Frag} {h : Heap} {mg : Str → Option Value} {fa : Addr} (X : K.In h) (G : h.Ns mainGlobals mg) (hfa : mg "law" = some (.ref fa))
    {ca0 : Addr}
    {tk_DIGITS : Tok}
    {ga_KEYWORDS : Addr} {gd_KEYWORDS : Option Addr} {gi_KEYWORDS : Array Value} {gn_KEYWORDS : Nat} {gs_KEYWORDS : Array (Option Value)}
    {tk_LETTERS : Tok}
    {tk_MOST_DIGITS : Tok}
    {tk_WORD_CHARS : Tok}
    {od1 an1 : Option Addr} {sl1 : Array (Option Value)} {oc1 kV1 dc1 pm1 cd1 ct1 : Value} {f1 : Addr}
    {od2 an2 : Option Addr} {sl2 : Array (Option Value)} {oc2 kV2 dc2 pm2 cd2 ct2 : Value} {f2 : Addr}
    {od3 an3 : Option Addr} {sl3 : Array (Option Value)} {oc3 kV3 dc3 pm3 cd3 ct3 : Value} {f3 : Addr}
    {od4 an4 : Option Addr} {sl4 : Array (Option Value)} {oc4 kV4 dc4 pm4 cd4 ct4 : Value} {f4 : Addr}
    {od5 an5 : Option Addr} {sl5 : Array (Option Value)} {oc5 kV5 dc5 pm5 cd5 ct5 : Value} {f5 : Addr}
    {od6 an6 : Option Addr} {sl6 : Array (Option Value)} {oc6 kV6 dc6 pm6 cd6 ct6 : Value} {f6 : Addr}
    {od7 an7 : Option Addr} {sl7 : Array (Option Value)} {oc7 kV7 dc7 pm7 cd7 ct7 : Value} {f7 : Addr}
    {od8 an8 : Option Addr} {sl8 : Array (Option Value)} {oc8 kV8 dc8 pm8 cd8 ct8 : Value} {f8 : Addr}
    {od9 an9 : Option Addr} {sl9 : Array (Option Value)} {oc9 kV9 dc9 pm9 cd9 ct9 : Value} {f9 : Addr}
    {od10 an10 : Option Addr} {sl10 : Array (Option Value)} {oc10 kV10 dc10 pm10 cd10 ct10 : Value} {f10 : Addr}
    {od11 an11 : Option Addr} {sl11 : Array (Option Value)} {oc11 kV11 dc11 pm11 cd11 ct11 : Value} {f11 : Addr}
    {od12 an12 : Option Addr} {sl12 : Array (Option Value)} {oc12 kV12 dc12 pm12 cd12 ct12 : Value} {f12 : Addr}
    {od13 an13 : Option Addr} {sl13 : Array (Option Value)} {oc13 kV13 dc13 pm13 cd13 ct13 : Value} {f13 : Addr}
    {od14 an14 : Option Addr} {sl14 : Array (Option Value)} {oc14 kV14 dc14 pm14 cd14 ct14 : Value} {f14 : Addr}
    {od15 an15 : Option Addr} {sl15 : Array (Option Value)} {oc15 kV15 dc15 pm15 cd15 ct15 : Value} {f15 : Addr}
    {od16 an16 : Option Addr} {sl16 : Array (Option Value)} {oc16 kV16 dc16 pm16 cd16 ct16 : Value} {f16 : Addr}
    {od17 an17 : Option Addr} {sl17 : Array (Option Value)} {oc17 kV17 dc17 pm17 cd17 ct17 : Value} {f17 : Addr}
    {od18 an18 : Option Addr} {sl18 : Array (Option Value)} {oc18 kV18 dc18 pm18 cd18 ct18 : Value} {f18 : Addr}
    {od19 an19 : Option Addr} {sl19 : Array (Option Value)} {oc19 kV19 dc19 pm19 cd19 ct19 : Value} {f19 : Addr}
    {od20 an20 : Option Addr} {sl20 : Array (Option Value)} {oc20 kV20 dc20 pm20 cd20 ct20 : Value} {f20 : Addr}
    {od21 an21 : Option Addr} {sl21 : Array (Option Value)} {oc21 kV21 dc21 pm21 cd21 ct21 : Value} {f21 : Addr}
    {od22 an22 : Option Addr} {sl22 : Array (Option Value)} {oc22 kV22 dc22 pm22 cd22 ct22 : Value} {f22 : Addr}
    {od23 an23 : Option Addr} {sl23 : Array (Option Value)} {oc23 kV23 dc23 pm23 cd23 ct23 : Value} {f23 : Addr}
    {od24 an24 : Option Addr} {sl24 : Array (Option Value)} {oc24 kV24 dc24 pm24 cd24 ct24 : Value} {f24 : Addr}
    (gx_BadReport : PySem.W.nsIn K mainGlobals "BadReport" = some (some (.ref ca0)))
    (bx_BadReport : PySem.W.subIn K (.ref ca0) (.type "BaseException") = some true)
    (tx_BadReport : PySem.W.typeIn K (.ref ca0) = some (.type "type"))
    (dx_BadReport : PySem.W.hasDictIn K ca0 = true)
    (qx_BadReport : PySem.W.excIn K ca0 [.type "ValueError", .type "Exception", .type "BaseException", .type "object"] "ValueError.__new__" = true)
    (kx_BadReport : PySem.W.keepIn K (.ref ca0) = true)
    (gc_DIGITS : PySem.W.nsIn K mainGlobals "DIGITS" = some (some (.str "0123456789" tk_DIGITS)))
    (gc_KEYWORDS : PySem.W.nsIn K mainGlobals "KEYWORDS" = some (some (.ref ga_KEYWORDS)))
    (gl_KEYWORDS : K.lookup ga_KEYWORDS = some ⟨.type "tuple", gd_KEYWORDS, .seq gi_KEYWORDS gn_KEYWORDS, gs_KEYWORDS⟩)
    (gv_KEYWORDS : M.strVals gi_KEYWORDS.toList = some [[99, 101, 108, 108], [112, 105, 110], [109, 111, 100, 117, 108, 101], [103, 97, 116, 101], [112, 97, 114, 116], [114, 101, 103], [101, 100, 103, 101], [111, 117, 116], [115, 101, 116, 117, 112], [104, 111, 108, 100], [115, 116, 97, 114, 116]])
    (gc_LETTERS : PySem.W.nsIn K mainGlobals "LETTERS" = some (some (.str "abcdefghijklmnopqrstuvwxyz" tk_LETTERS)))
    (gc_MOST_DIGITS : PySem.W.nsIn K mainGlobals "MOST_DIGITS" = some (some (.int (60) tk_MOST_DIGITS)))
    (gc_WORD_CHARS : PySem.W.nsIn K mainGlobals "WORD_CHARS" = some (some (.str "abcdefghijklmnopqrstuvwxyz0123456789_" tk_WORD_CHARS)))
    (x1 : PySem.W.nsIn K mainGlobals "_law_pool" = some (some (.ref f1))) (l1 : K.lookup f1 = some ⟨oc1, od1, .func (PySem.W.fnOf "_law_pool" "_law_pool" (defArgs s_Lpool) (defBody s_Lpool) (defScope s_Lpool) .none kV1 dc1 pm1 an1 cd1 ct1), sl1⟩) (c1 : PySem.W.codeIn K cd1 "_law_pool" = true) (k1 : PySem.W.keepIn K (.ref f1) = true)
    (x2 : PySem.W.nsIn K mainGlobals "_law_spread" = some (some (.ref f2))) (l2 : K.lookup f2 = some ⟨oc2, od2, .func (PySem.W.fnOf "_law_spread" "_law_spread" (defArgs s_Lspread) (defBody s_Lspread) (defScope s_Lspread) .none kV2 dc2 pm2 an2 cd2 ct2), sl2⟩) (c2 : PySem.W.codeIn K cd2 "_law_spread" = true) (k2 : PySem.W.keepIn K (.ref f2) = true)
    (x3 : PySem.W.nsIn K mainGlobals "_law_draw" = some (some (.ref f3))) (l3 : K.lookup f3 = some ⟨oc3, od3, .func (PySem.W.fnOf "_law_draw" "_law_draw" (defArgs s_Ldraw) (defBody s_Ldraw) (defScope s_Ldraw) .none kV3 dc3 pm3 an3 cd3 ct3), sl3⟩) (c3 : PySem.W.codeIn K cd3 "_law_draw" = true) (k3 : PySem.W.keepIn K (.ref f3) = true)
    (x4 : PySem.W.nsIn K mainGlobals "_law_word" = some (some (.ref f4))) (l4 : K.lookup f4 = some ⟨oc4, od4, .func (PySem.W.fnOf "_law_word" "_law_word" (defArgs s_Lword) (defBody s_Lword) (defScope s_Lword) .none kV4 dc4 pm4 an4 cd4 ct4), sl4⟩) (c4 : PySem.W.codeIn K cd4 "_law_word" = true) (k4 : PySem.W.keepIn K (.ref f4) = true)
    (x5 : PySem.W.nsIn K mainGlobals "_law_number" = some (some (.ref f5))) (l5 : K.lookup f5 = some ⟨oc5, od5, .func (PySem.W.fnOf "_law_number" "_law_number" (defArgs s_Lnumber) (defBody s_Lnumber) (defScope s_Lnumber) .none kV5 dc5 pm5 an5 cd5 ct5), sl5⟩) (c5 : PySem.W.codeIn K cd5 "_law_number" = true) (k5 : PySem.W.keepIn K (.ref f5) = true)
    (x6 : PySem.W.nsIn K mainGlobals "_law_bits" = some (some (.ref f6))) (l6 : K.lookup f6 = some ⟨oc6, od6, .func (PySem.W.fnOf "_law_bits" "_law_bits" (defArgs s_Lbits) (defBody s_Lbits) (defScope s_Lbits) .none kV6 dc6 pm6 an6 cd6 ct6), sl6⟩) (c6 : PySem.W.codeIn K cd6 "_law_bits" = true) (k6 : PySem.W.keepIn K (.ref f6) = true)
    (x7 : PySem.W.nsIn K mainGlobals "_law_margin" = some (some (.ref f7))) (l7 : K.lookup f7 = some ⟨oc7, od7, .func (PySem.W.fnOf "_law_margin" "_law_margin" (defArgs s_Lmargin) (defBody s_Lmargin) (defScope s_Lmargin) .none kV7 dc7 pm7 an7 cd7 ct7), sl7⟩) (c7 : PySem.W.codeIn K cd7 "_law_margin" = true) (k7 : PySem.W.keepIn K (.ref f7) = true)
    (x8 : PySem.W.nsIn K mainGlobals "_law_report" = some (some (.ref f8))) (l8 : K.lookup f8 = some ⟨oc8, od8, .func (PySem.W.fnOf "_law_report" "_law_report" (defArgs s_Lreport) (defBody s_Lreport) (defScope s_Lreport) .none kV8 dc8 pm8 an8 cd8 ct8), sl8⟩) (c8 : PySem.W.codeIn K cd8 "_law_report" = true) (k8 : PySem.W.keepIn K (.ref f8) = true)
    (x9 : PySem.W.nsIn K mainGlobals "_law_shown" = some (some (.ref f9))) (l9 : K.lookup f9 = some ⟨oc9, od9, .func (PySem.W.fnOf "_law_shown" "_law_shown" (defArgs s_Lshown) (defBody s_Lshown) (defScope s_Lshown) .none kV9 dc9 pm9 an9 cd9 ct9), sl9⟩) (c9 : PySem.W.codeIn K cd9 "_law_shown" = true) (k9 : PySem.W.keepIn K (.ref f9) = true)
    (x10 : PySem.W.nsIn K mainGlobals "_law_text" = some (some (.ref f10))) (l10 : K.lookup f10 = some ⟨oc10, od10, .func (PySem.W.fnOf "_law_text" "_law_text" (defArgs s_Ltext) (defBody s_Ltext) (defScope s_Ltext) .none kV10 dc10 pm10 an10 cd10 ct10), sl10⟩) (c10 : PySem.W.codeIn K cd10 "_law_text" = true) (k10 : PySem.W.keepIn K (.ref f10) = true)
    (x11 : PySem.W.nsIn K mainGlobals "_law_same" = some (some (.ref f11))) (l11 : K.lookup f11 = some ⟨oc11, od11, .func (PySem.W.fnOf "_law_same" "_law_same" (defArgs s_Lsame) (defBody s_Lsame) (defScope s_Lsame) .none kV11 dc11 pm11 an11 cd11 ct11), sl11⟩) (c11 : PySem.W.codeIn K cd11 "_law_same" = true) (k11 : PySem.W.keepIn K (.ref f11) = true)
    (x12 : PySem.W.nsIn K mainGlobals "read_integer" = some (some (.ref f12))) (l12 : K.lookup f12 = some ⟨oc12, od12, .func (PySem.W.fnOf "read_integer" "read_integer" (defArgs s_read_integer) (defBody s_read_integer) (defScope s_read_integer) .none kV12 dc12 pm12 an12 cd12 ct12), sl12⟩) (c12 : PySem.W.codeIn K cd12 "read_integer" = true) (k12 : PySem.W.keepIn K (.ref f12) = true)
    (x13 : PySem.W.nsIn K mainGlobals "is_word" = some (some (.ref f13))) (l13 : K.lookup f13 = some ⟨oc13, od13, .func (PySem.W.fnOf "is_word" "is_word" (defArgs s_is_word) (defBody s_is_word) (defScope s_is_word) .none kV13 dc13 pm13 an13 cd13 ct13), sl13⟩) (c13 : PySem.W.codeIn K cd13 "is_word" = true) (k13 : PySem.W.keepIn K (.ref f13) = true)
    (x14 : PySem.W.nsIn K mainGlobals "is_name" = some (some (.ref f14))) (l14 : K.lookup f14 = some ⟨oc14, od14, .func (PySem.W.fnOf "is_name" "is_name" (defArgs s_is_name) (defBody s_is_name) (defScope s_is_name) .none kV14 dc14 pm14 an14 cd14 ct14), sl14⟩) (c14 : PySem.W.codeIn K cd14 "is_name" = true) (k14 : PySem.W.keepIn K (.ref f14) = true)
    (x15 : PySem.W.nsIn K mainGlobals "read_name" = some (some (.ref f15))) (l15 : K.lookup f15 = some ⟨oc15, od15, .func (PySem.W.fnOf "read_name" "read_name" (defArgs s_read_name) (defBody s_read_name) (defScope s_read_name) .none kV15 dc15 pm15 an15 cd15 ct15), sl15⟩) (c15 : PySem.W.codeIn K cd15 "read_name" = true) (k15 : PySem.W.keepIn K (.ref f15) = true)
    (x16 : PySem.W.nsIn K mainGlobals "read_margin" = some (some (.ref f16))) (l16 : K.lookup f16 = some ⟨oc16, od16, .func (PySem.W.fnOf "read_margin" "read_margin" (defArgs s_read_margin) (defBody s_read_margin) (defScope s_read_margin) .none kV16 dc16 pm16 an16 cd16 ct16), sl16⟩) (c16 : PySem.W.codeIn K cd16 "read_margin" = true) (k16 : PySem.W.keepIn K (.ref f16) = true)
    (x17 : PySem.W.nsIn K mainGlobals "read_bits" = some (some (.ref f17))) (l17 : K.lookup f17 = some ⟨oc17, od17, .func (PySem.W.fnOf "read_bits" "read_bits" (defArgs s_read_bits) (defBody s_read_bits) (defScope s_read_bits) .none kV17 dc17 pm17 an17 cd17 ct17), sl17⟩) (c17 : PySem.W.codeIn K cd17 "read_bits" = true) (k17 : PySem.W.keepIn K (.ref f17) = true)
    (x18 : PySem.W.nsIn K mainGlobals "read_row" = some (some (.ref f18))) (l18 : K.lookup f18 = some ⟨oc18, od18, .func (PySem.W.fnOf "read_row" "read_row" (defArgs s_read_row) (defBody s_read_row) (defScope s_read_row) .none kV18 dc18 pm18 an18 cd18 ct18), sl18⟩) (c18 : PySem.W.codeIn K cd18 "read_row" = true) (k18 : PySem.W.keepIn K (.ref f18) = true)
    (x19 : PySem.W.nsIn K mainGlobals "is_clean_report" = some (some (.ref f19))) (l19 : K.lookup f19 = some ⟨oc19, od19, .func (PySem.W.fnOf "is_clean_report" "is_clean_report" (defArgs s_is_clean_report) (defBody s_is_clean_report) (defScope s_is_clean_report) .none kV19 dc19 pm19 an19 cd19 ct19), sl19⟩) (c19 : PySem.W.codeIn K cd19 "is_clean_report" = true) (k19 : PySem.W.keepIn K (.ref f19) = true)
    (x20 : PySem.W.nsIn K mainGlobals "read_report" = some (some (.ref f20))) (l20 : K.lookup f20 = some ⟨oc20, od20, .func (PySem.W.fnOf "read_report" "read_report" (defArgs s_read_report) (defBody s_read_report) (defScope s_read_report) .none kV20 dc20 pm20 an20 cd20 ct20), sl20⟩) (c20 : PySem.W.codeIn K cd20 "read_report" = true) (k20 : PySem.W.keepIn K (.ref f20) = true)
    (x21 : PySem.W.nsIn K mainGlobals "show_margin" = some (some (.ref f21))) (l21 : K.lookup f21 = some ⟨oc21, od21, .func (PySem.W.fnOf "show_margin" "show_margin" (defArgs s_show_margin) (defBody s_show_margin) (defScope s_show_margin) .none kV21 dc21 pm21 an21 cd21 ct21), sl21⟩) (c21 : PySem.W.codeIn K cd21 "show_margin" = true) (k21 : PySem.W.keepIn K (.ref f21) = true)
    (x22 : PySem.W.nsIn K mainGlobals "show_bits" = some (some (.ref f22))) (l22 : K.lookup f22 = some ⟨oc22, od22, .func (PySem.W.fnOf "show_bits" "show_bits" (defArgs s_show_bits) (defBody s_show_bits) (defScope s_show_bits) .none kV22 dc22 pm22 an22 cd22 ct22), sl22⟩) (c22 : PySem.W.codeIn K cd22 "show_bits" = true) (k22 : PySem.W.keepIn K (.ref f22) = true)
    (x23 : PySem.W.nsIn K mainGlobals "write_report" = some (some (.ref f23))) (l23 : K.lookup f23 = some ⟨oc23, od23, .func (PySem.W.fnOf "write_report" "write_report" (defArgs s_write_report) (defBody s_write_report) (defScope s_write_report) .none kV23 dc23 pm23 an23 cd23 ct23), sl23⟩) (c23 : PySem.W.codeIn K cd23 "write_report" = true) (k23 : PySem.W.keepIn K (.ref f23) = true)
    (x24 : PySem.W.nsIn K mainGlobals "law" = some (some (.ref f24))) (l24 : K.lookup f24 = some ⟨oc24, od24, .func (PySem.W.fnOf "law" "law" (defArgs s_law) (defBody s_law) (defScope s_law) .none kV24 dc24 pm24 an24 cd24 ct24), sl24⟩) (c24 : PySem.W.codeIn K cd24 "law" = true) (k24 : PySem.W.keepIn K (.ref f24) = true)
    (z_bool : PySem.W.nsIn K mainGlobals "bool" = some none)
    (z_int : PySem.W.nsIn K mainGlobals "int" = some none)
    (z_isinstance : PySem.W.nsIn K mainGlobals "isinstance" = some none)
    (z_len : PySem.W.nsIn K mainGlobals "len" = some none)
    (z_list : PySem.W.nsIn K mainGlobals "list" = some none)
    (z_range : PySem.W.nsIn K mainGlobals "range" = some none)
    (z_set : PySem.W.nsIn K mainGlobals "set" = some none)
    (z_sorted : PySem.W.nsIn K mainGlobals "sorted" = some none)
    (z_str : PySem.W.nsIn K mainGlobals "str" = some none)
    (z_tuple : PySem.W.nsIn K mainGlobals "tuple" = some none) :
    ∃ (Γ : Gm) (fd : FuncData), Γ.K = K ∧ (∀ (s : Shared) (v : Value), BindsTo s fd ⟨[v], []⟩ [("_law_script", v)]) ∧ ∀ base : Heap, K.In base → base.Ns mainGlobals mg → FnOk l.prog w K mg base (L2.CX l.prog w) 10 fa fd ["_law_script"] (spI Γ 1 f_law) := by
  have e := hfa.symm.trans (PySem.W.mg_of X G x24)
  cases e
  have T : Txt ⟨K, l.prog, w, clOf [("BadReport", ca0)], clOf []⟩ mg := {
    c_BadReport := ca0
    g_BadReport := PySem.W.mg_of X G gx_BadReport
    q_BadReport := qx_BadReport
    k_BadReport := kx_BadReport
    b_BadReport := bx_BadReport
    t_BadReport := tx_BadReport
    l_BadReport := by unfold clOf; simp [clOf]
    u_DIGITS := _
    v_DIGITS := PySem.W.mg_of X G gc_DIGITS
    w_DIGITS := ⟨_, rfl⟩
    u_KEYWORDS := _
    v_KEYWORDS := PySem.W.mg_of X G gc_KEYWORDS
    w_KEYWORDS := GTup.of gl_KEYWORDS gv_KEYWORDS
    u_LETTERS := _
    v_LETTERS := PySem.W.mg_of X G gc_LETTERS
    w_LETTERS := ⟨_, rfl⟩
    u_MOST_DIGITS := _
    v_MOST_DIGITS := PySem.W.mg_of X G gc_MOST_DIGITS
    w_MOST_DIGITS := ⟨_, rfl⟩
    u_WORD_CHARS := _
    v_WORD_CHARS := PySem.W.mg_of X G gc_WORD_CHARS
    w_WORD_CHARS := ⟨_, rfl⟩
    a_Lpool := f1
    d_Lpool := _
    F_Lpool := fun_mk (st := s_Lpool) l1 c1 k1
    m_Lpool := PySem.W.mg_of X G x1
    b_Lpool := (fun_mk (st := s_Lpool) l1 c1 k1).binds (ps := ["_law_script"]) (fun _ _ _ _ _ _ us hl => (match us, hl with | [_], _ => rfl))
    a_Lspread := f2
    d_Lspread := _
    F_Lspread := fun_mk (st := s_Lspread) l2 c2 k2
    m_Lspread := PySem.W.mg_of X G x2
    b_Lspread := (fun_mk (st := s_Lspread) l2 c2 k2).binds (ps := ["_law_cell"]) (fun _ _ _ _ _ _ us hl => (match us, hl with | [_], _ => rfl))
    a_Ldraw := f3
    d_Ldraw := _
    F_Ldraw := fun_mk (st := s_Ldraw) l3 c3 k3
    m_Ldraw := PySem.W.mg_of X G x3
    b_Ldraw := (fun_mk (st := s_Ldraw) l3 c3 k3).binds (ps := ["_law_pool_here", "_law_many"]) (fun _ _ _ _ _ _ us hl => (match us, hl with | [_, _], _ => rfl))
    a_Lword := f4
    d_Lword := _
    F_Lword := fun_mk (st := s_Lword) l4 c4 k4
    m_Lword := PySem.W.mg_of X G x4
    b_Lword := (fun_mk (st := s_Lword) l4 c4 k4).binds (ps := ["_law_pool_here"]) (fun _ _ _ _ _ _ us hl => (match us, hl with | [_], _ => rfl))
    a_Lnumber := f5
    d_Lnumber := _
    F_Lnumber := fun_mk (st := s_Lnumber) l5 c5 k5
    m_Lnumber := PySem.W.mg_of X G x5
    b_Lnumber := (fun_mk (st := s_Lnumber) l5 c5 k5).binds (ps := ["_law_pool_here"]) (fun _ _ _ _ _ _ us hl => (match us, hl with | [_], _ => rfl))
    a_Lbits := f6
    d_Lbits := _
    F_Lbits := fun_mk (st := s_Lbits) l6 c6 k6
    m_Lbits := PySem.W.mg_of X G x6
    b_Lbits := (fun_mk (st := s_Lbits) l6 c6 k6).binds (ps := ["_law_index", "_law_many"]) (fun _ _ _ _ _ _ us hl => (match us, hl with | [_, _], _ => rfl))
    a_Lmargin := f7
    d_Lmargin := _
    F_Lmargin := fun_mk (st := s_Lmargin) l7 c7 k7
    m_Lmargin := PySem.W.mg_of X G x7
    b_Lmargin := (fun_mk (st := s_Lmargin) l7 c7 k7).binds (ps := ["_law_pool_here"]) (fun _ _ _ _ _ _ us hl => (match us, hl with | [_], _ => rfl))
    a_Lreport := f8
    d_Lreport := _
    F_Lreport := fun_mk (st := s_Lreport) l8 c8 k8
    m_Lreport := PySem.W.mg_of X G x8
    b_Lreport := (fun_mk (st := s_Lreport) l8 c8 k8).binds (ps := ["_law_pool_here"]) (fun _ _ _ _ _ _ us hl => (match us, hl with | [_], _ => rfl))
    a_Lshown := f9
    d_Lshown := _
    F_Lshown := fun_mk (st := s_Lshown) l9 c9 k9
    m_Lshown := PySem.W.mg_of X G x9
    b_Lshown := (fun_mk (st := s_Lshown) l9 c9 k9).binds (ps := ["_law_value"]) (fun _ _ _ _ _ _ us hl => (match us, hl with | [_], _ => rfl))
    a_Ltext := f10
    d_Ltext := _
    F_Ltext := fun_mk (st := s_Ltext) l10 c10 k10
    m_Ltext := PySem.W.mg_of X G x10
    b_Ltext := (fun_mk (st := s_Ltext) l10 c10 k10).binds (ps := ["_law_report_here"]) (fun _ _ _ _ _ _ us hl => (match us, hl with | [_], _ => rfl))
    a_Lsame := f11
    d_Lsame := _
    F_Lsame := fun_mk (st := s_Lsame) l11 c11 k11
    m_Lsame := PySem.W.mg_of X G x11
    b_Lsame := (fun_mk (st := s_Lsame) l11 c11 k11).binds (ps := ["_law_actual", "_law_due"]) (fun _ _ _ _ _ _ us hl => (match us, hl with | [_, _], _ => rfl))
    a_read_integer := f12
    d_read_integer := _
    F_read_integer := fun_mk (st := s_read_integer) l12 c12 k12
    m_read_integer := PySem.W.mg_of X G x12
    b_read_integer := (fun_mk (st := s_read_integer) l12 c12 k12).binds (ps := ["word"]) (fun _ _ _ _ _ _ us hl => (match us, hl with | [_], _ => rfl))
    a_is_word := f13
    d_is_word := _
    F_is_word := fun_mk (st := s_is_word) l13 c13 k13
    m_is_word := PySem.W.mg_of X G x13
    b_is_word := (fun_mk (st := s_is_word) l13 c13 k13).binds (ps := ["token"]) (fun _ _ _ _ _ _ us hl => (match us, hl with | [_], _ => rfl))
    a_is_name := f14
    d_is_name := _
    F_is_name := fun_mk (st := s_is_name) l14 c14 k14
    m_is_name := PySem.W.mg_of X G x14
    b_is_name := (fun_mk (st := s_is_name) l14 c14 k14).binds (ps := ["token"]) (fun _ _ _ _ _ _ us hl => (match us, hl with | [_], _ => rfl))
    a_read_name := f15
    d_read_name := _
    F_read_name := fun_mk (st := s_read_name) l15 c15 k15
    m_read_name := PySem.W.mg_of X G x15
    b_read_name := (fun_mk (st := s_read_name) l15 c15 k15).binds (ps := ["word"]) (fun _ _ _ _ _ _ us hl => (match us, hl with | [_], _ => rfl))
    a_read_margin := f16
    d_read_margin := _
    F_read_margin := fun_mk (st := s_read_margin) l16 c16 k16
    m_read_margin := PySem.W.mg_of X G x16
    b_read_margin := (fun_mk (st := s_read_margin) l16 c16 k16).binds (ps := ["word"]) (fun _ _ _ _ _ _ us hl => (match us, hl with | [_], _ => rfl))
    a_read_bits := f17
    d_read_bits := _
    F_read_bits := fun_mk (st := s_read_bits) l17 c17 k17
    m_read_bits := PySem.W.mg_of X G x17
    b_read_bits := (fun_mk (st := s_read_bits) l17 c17 k17).binds (ps := ["word"]) (fun _ _ _ _ _ _ us hl => (match us, hl with | [_], _ => rfl))
    a_read_row := f18
    d_read_row := _
    F_read_row := fun_mk (st := s_read_row) l18 c18 k18
    m_read_row := PySem.W.mg_of X G x18
    b_read_row := (fun_mk (st := s_read_row) l18 c18 k18).binds (ps := ["line"]) (fun _ _ _ _ _ _ us hl => (match us, hl with | [_], _ => rfl))
    a_is_clean_report := f19
    d_is_clean_report := _
    F_is_clean_report := fun_mk (st := s_is_clean_report) l19 c19 k19
    m_is_clean_report := PySem.W.mg_of X G x19
    b_is_clean_report := (fun_mk (st := s_is_clean_report) l19 c19 k19).binds (ps := ["report"]) (fun _ _ _ _ _ _ us hl => (match us, hl with | [_], _ => rfl))
    a_read_report := f20
    d_read_report := _
    F_read_report := fun_mk (st := s_read_report) l20 c20 k20
    m_read_report := PySem.W.mg_of X G x20
    b_read_report := (fun_mk (st := s_read_report) l20 c20 k20).binds (ps := ["text"]) (fun _ _ _ _ _ _ us hl => (match us, hl with | [_], _ => rfl))
    a_show_margin := f21
    d_show_margin := _
    F_show_margin := fun_mk (st := s_show_margin) l21 c21 k21
    m_show_margin := PySem.W.mg_of X G x21
    b_show_margin := (fun_mk (st := s_show_margin) l21 c21 k21).binds (ps := ["margin"]) (fun _ _ _ _ _ _ us hl => (match us, hl with | [_], _ => rfl))
    a_show_bits := f22
    d_show_bits := _
    F_show_bits := fun_mk (st := s_show_bits) l22 c22 k22
    m_show_bits := PySem.W.mg_of X G x22
    b_show_bits := (fun_mk (st := s_show_bits) l22 c22 k22).binds (ps := ["vector"]) (fun _ _ _ _ _ _ us hl => (match us, hl with | [_], _ => rfl))
    a_write_report := f23
    d_write_report := _
    F_write_report := fun_mk (st := s_write_report) l23 c23 k23
    m_write_report := PySem.W.mg_of X G x23
    b_write_report := (fun_mk (st := s_write_report) l23 c23 k23).binds (ps := ["report"]) (fun _ _ _ _ _ _ us hl => (match us, hl with | [_], _ => rfl))
    z_bool := PySem.W.mg_none_of X G z_bool
    z_int := PySem.W.mg_none_of X G z_int
    z_isinstance := PySem.W.mg_none_of X G z_isinstance
    z_len := PySem.W.mg_none_of X G z_len
    z_list := PySem.W.mg_none_of X G z_list
    z_range := PySem.W.mg_none_of X G z_range
    z_set := PySem.W.mg_none_of X G z_set
    z_sorted := PySem.W.mg_none_of X G z_sorted
    z_str := PySem.W.mg_none_of X G z_str
    z_tuple := PySem.W.mg_none_of X G z_tuple }
  exact ⟨⟨K, l.prog, w, clOf [("BadReport", ca0)], clOf []⟩, PySem.W.fnOf "law" "law" (defArgs s_law) (defBody s_law) (defScope s_law) .none kV24 dc24 pm24 an24 cd24 ct24, rfl, fun s v => .of_eq rfl, fun base _ _ => ok_law (Γ := ⟨K, l.prog, w, clOf [("BadReport", ca0)], clOf []⟩) T (fun_mk (st := s_law) l24 c24 k24)⟩
end M

-- End
set_option Elab.async false
set_option linter.all false
set_option maxRecDepth 100000
namespace M
open PySem L2
theorem walk {l : PySem.W.OpenLaw} {q : Program} {loose : List Str} {XP : (Str → Option Value) → Heap → Prop} {YP : World → Heap → Prop} {d : DefRec} {K : Params → PySem.W.Frag} (hlaw : ∀ ns : List Int, ns.length ≤ 63 → f_law [.ro (ns.map W.int)] [] = .ok (.bl true) [])
    (hn : l.most = some 63) (hdf : d.params.defaults = []) (hY : ∀ (w : World) (h : Heap), YP w h → (K w.params).In h)
    (F : ∀ (w : World) (mg : Str → Option Value) (fa : Addr) (h : Heap), (K w.params).In h → h.Ns mainGlobals mg → mg d.name = some (.ref fa) →
      ∃ (Γ : Gm) (fd : FuncData), Γ.K = K w.params ∧ (∀ (s : Shared) (u : Value), BindsTo s fd ⟨[u], []⟩ [("_law_script", u)]) ∧ ∀ base : Heap, (K w.params).In base → base.Ns mainGlobals mg → FnOk l.prog w (K w.params) mg base (L2.CX l.prog w) 10 fa fd ["_law_script"] (spI Γ 1 f_law)) :
    PySem.W.WalkO q loose XP YP l.row.toRowW d [] (fun f vs => PySem.call f vs) :=
  L2.walk_of (n := 63) (k := 10) (x := "_law_script") (CX := fun w => L2.CX l.prog w) (sp := fun w vs H Q E => ∀ Γ : Gm, Γ.K = K w.params → spI Γ 1 f_law vs H Q E) hn (by decide) hdf ⟨rfl, by decide, by decide⟩ hY (fun w mg fa h a b c => by
    obtain ⟨Γ, fd, hk, h1, h2⟩ := F w mg fa h a b c
    exact ⟨fd, h1, fun base i j => (h2 base i j).imp fun vs H Q E q => q Γ hk⟩) (fun w H a ns hl _ hS Γ hk => law_end hlaw hl (by rw [hk]; exact hS)) fun w H s e s' h => by
    obtain ⟨_, _, _, _, _, _, _, _, _, _, _, _, z⟩ := h
    exact z
end M
open PySem PySem.W PyProof.Rows
set_option maxRecDepth 100000 in
set_option maxHeartbeats 0 in
theorem PySem.Challenge.cw_signoff_k71_reports_written_holds : PySem.Challenge.rw_signoff_k71_reports_written.Holds := by
  w_on; o_law; k_head; (case hw => w_witness2)
  k_fill
  refine M.walk (l := PySem.Challenge.rw_signoff_k71_reports_written) M.law_true rfl rfl (fun w h Y => PySem.W.kIn_of Y) ?F
  case F =>
    intro w mg fa h KX G hmg
    refine' M.all_mk KX G hmg ?gx_BadReport ?bx_BadReport ?tx_BadReport ?dx_BadReport ?qx_BadReport ?kx_BadReport ?gc_DIGITS ?gc_KEYWORDS ?gl_KEYWORDS ?gv_KEYWORDS ?gc_LETTERS ?gc_MOST_DIGITS ?gc_WORD_CHARS ?x1 ?l1 ?c1 ?k1 ?x2 ?l2 ?c2 ?k2 ?x3 ?l3 ?c3 ?k3 ?x4 ?l4 ?c4 ?k4 ?x5 ?l5 ?c5 ?k5 ?x6 ?l6 ?c6 ?k6 ?x7 ?l7 ?c7 ?k7 ?x8 ?l8 ?c8 ?k8 ?x9 ?l9 ?c9 ?k9 ?x10 ?l10 ?c10 ?k10 ?x11 ?l11 ?c11 ?k11 ?x12 ?l12 ?c12 ?k12 ?x13 ?l13 ?c13 ?k13 ?x14 ?l14 ?c14 ?k14 ?x15 ?l15 ?c15 ?k15 ?x16 ?l16 ?c16 ?k16 ?x17 ?l17 ?c17 ?k17 ?x18 ?l18 ?c18 ?k18 ?x19 ?l19 ?c19 ?k19 ?x20 ?l20 ?c20 ?k20 ?x21 ?l21 ?c21 ?k21 ?x22 ?l22 ?c22 ?k22 ?x23 ?l23 ?c23 ?k23 ?x24 ?l24 ?c24 ?k24 ?z_bool ?z_int ?z_isinstance ?z_len ?z_list ?z_range ?z_set ?z_sorted ?z_str ?z_tuple
    (case gx_BadReport => k_is)
    (case bx_BadReport => k_is)
    (case tx_BadReport => k_is)
    (case dx_BadReport => k_is)
    (case qx_BadReport => k_exc)
    (case kx_BadReport => k_is)
    (case gc_DIGITS => k_is)
    (case gc_KEYWORDS => k_is)
    (case gl_KEYWORDS => k_is)
    (case gv_KEYWORDS => (first | rfl | decide +kernel))
    (case gc_LETTERS => k_is)
    (case gc_MOST_DIGITS => k_is)
    (case gc_WORD_CHARS => k_is)
    (case x1 => k_is)
    (case l1 => k_is)
    (case c1 => k_is)
    (case k1 => k_is)
    (case x2 => k_is)
    (case l2 => k_is)
    (case c2 => k_is)
    (case k2 => k_is)
    (case x3 => k_is)
    (case l3 => k_is)
    (case c3 => k_is)
    (case k3 => k_is)
    (case x4 => k_is)
    (case l4 => k_is)
    (case c4 => k_is)
    (case k4 => k_is)
    (case x5 => k_is)
    (case l5 => k_is)
    (case c5 => k_is)
    (case k5 => k_is)
    (case x6 => k_is)
    (case l6 => k_is)
    (case c6 => k_is)
    (case k6 => k_is)
    (case x7 => k_is)
    (case l7 => k_is)
    (case c7 => k_is)
    (case k7 => k_is)
    (case x8 => k_is)
    (case l8 => k_is)
    (case c8 => k_is)
    (case k8 => k_is)
    (case x9 => k_is)
    (case l9 => k_is)
    (case c9 => k_is)
    (case k9 => k_is)
    (case x10 => k_is)
    (case l10 => k_is)
    (case c10 => k_is)
    (case k10 => k_is)
    (case x11 => k_is)
    (case l11 => k_is)
    (case c11 => k_is)
    (case k11 => k_is)
    (case x12 => k_is)
    (case l12 => k_is)
    (case c12 => k_is)
    (case k12 => k_is)
    (case x13 => k_is)
    (case l13 => k_is)
    (case c13 => k_is)
    (case k13 => k_is)
    (case x14 => k_is)
    (case l14 => k_is)
    (case c14 => k_is)
    (case k14 => k_is)
    (case x15 => k_is)
    (case l15 => k_is)
    (case c15 => k_is)
    (case k15 => k_is)
    (case x16 => k_is)
    (case l16 => k_is)
    (case c16 => k_is)
    (case k16 => k_is)
    (case x17 => k_is)
    (case l17 => k_is)
    (case c17 => k_is)
    (case k17 => k_is)
    (case x18 => k_is)
    (case l18 => k_is)
    (case c18 => k_is)
    (case k18 => k_is)
    (case x19 => k_is)
    (case l19 => k_is)
    (case c19 => k_is)
    (case k19 => k_is)
    (case x20 => k_is)
    (case l20 => k_is)
    (case c20 => k_is)
    (case k20 => k_is)
    (case x21 => k_is)
    (case l21 => k_is)
    (case c21 => k_is)
    (case k21 => k_is)
    (case x22 => k_is)
    (case l22 => k_is)
    (case c22 => k_is)
    (case k22 => k_is)
    (case x23 => k_is)
    (case l23 => k_is)
    (case c23 => k_is)
    (case k23 => k_is)
    (case x24 => k_is)
    (case l24 => k_is)
    (case c24 => k_is)
    (case k24 => k_is)
    (case z_bool => k_is)
    (case z_int => k_is)
    (case z_isinstance => k_is)
    (case z_len => k_is)
    (case z_list => k_is)
    (case z_range => k_is)
    (case z_set => k_is)
    (case z_sorted => k_is)
    (case z_str => k_is)
    (case z_tuple => k_is)
#print axioms PySem.Challenge.cw_signoff_k71_reports_written_holds

