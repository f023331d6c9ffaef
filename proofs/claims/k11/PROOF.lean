import PyProof.Rows.All
import Wide.All
import OpenK.AllK
import Wide.FinOn
import HandS.ForExc
import HandS.Comp
import HandS.Iter
import HandS.Wide
import HandS.WideBits
import KE.GoesEnum
import KE.GoesNew
import KE.GoesMore
import HandS.IsInst
import HandS.TupAny
import HandS.Text
import PySem.Challenge.RW_signoff_k11_inputs_that_matter
-- Core
set_option autoImplicit false
set_option linter.all false
namespace M
open Classical

/-! values: immutable data inline, mutable objects by their place in the store -/
inductive W where
  | non
  | bl (b : Bool)
  | int (i : Int)
  | str (s : List Nat)
  | tup (ws : List W)
  /-- a list that nobody will change: by value -/
  | lst (ws : List W)
  /-- a list of somebody else's that is read only: the script -/
  | ro (ws : List W)
  | loc (n : Nat)

inductive Cell where
  | lst (ws : List W)
  | dict (kvs : List (W × W))
  | obj (c : String) (fs : List (String × W))

abbrev Store := List Cell
abbrev Env := List (Option W)

/-- an exception: its class, what its own dict holds (none: it has none) -/
structure Ex where
  c : String
  d : Option (List (String × W))

inductive R (α : Type) where
  | ok (a : α) (st : Store)
  | exc (x : Ex) (st : Store)
  | stuck

def R.bind {α β : Type} (r : R α) (f : α → Store → R β) : R β := match r with
  | .ok a st => f a st
  | .exc x st => .exc x st
  | .stuck => .stuck
@[simp] theorem bind_ok {α β : Type} (a : α) (st : Store) (f : α → Store → R β) : (R.ok a st).bind f = f a st := rfl
@[simp] theorem bind_exc {α β : Type} (x : Ex) (st : Store) (f : α → Store → R β) : (R.exc x st : R α).bind f = .exc x st := rfl
@[simp] theorem bind_stuck {α β : Type} (f : α → Store → R β) : (R.stuck : R α).bind f = .stuck := rfl

inductive RS where
  | nx (env : Env) (st : Store)
  | ret (w : W) (st : Store)
  | brk (env : Env) (st : Store)
  | cnt (env : Env) (st : Store)
  | exc (x : Ex) (env : Env) (st : Store)
  | stuck

abbrev IE := Env → Store → R W
abbrev IL := Env → Store → R (List W)
abbrev IT := Env → Store → R Bool
abbrev IS := Env → Store → RS
abbrev Fn := List W → Store → R W

/-- the largest size that the model lets a sequence have -/
def lim : Nat := 16777216

mutual
/-- every place that is named lies below n -/
def W.bd (n : Nat) : W → Bool
  | .tup ws => bdL n ws
  | .lst ws => bdL n ws
  | .ro ws => bdL n ws
  | .loc m => decide (m < n)
  | _ => true
def bdL (n : Nat) : List W → Bool
  | [] => true
  | w :: ws => w.bd n && bdL n ws
end
def Cell.bd (n : Nat) : Cell → Bool
  | .lst ws => bdL n ws
  | .dict kvs => bdL n (kvs.map (·.1)) && bdL n (kvs.map (·.2))
  | .obj _ fs => bdL n (fs.map (·.2))
def Ex.bd (n : Nat) (x : Ex) : Bool := match x.d with
  | none => true
  | some fs => bdL n (fs.map (·.2))

/-- what stood stands, or has been changed to something that names nothing new -/
def OldOk (st st1 : Store) : Prop := st.length ≤ st1.length ∧ ∀ i, i < st.length → st1[i]? = st[i]? ∨ ∃ c, st1[i]? = some c ∧ c.bd st.length = true

inductive Mode where
  | raw | pur | lst

/-- a new list that is handed back is by value from then on -/
@[simp] def frz (n : Nat) (st1 : Store) (w : W) : W := match w with
  | .loc k => if k < n then w else match st1[k]? with
    | some (.lst ws) => .lst ws
    | _ => w
  | _ => w
noncomputable def fin (m : Mode) (st : Store) (w : W) (st1 : Store) : R W := match m with
  | .raw => .ok w st1
  | .pur => if (frz st.length st1 w).bd st.length = true ∧ OldOk st st1 then .ok (frz st.length st1 w) (st1.take st.length) else .stuck
  | .lst => match w with
    | .loc k => match st1[k]? with
      | some (.lst ws) => if st.length ≤ k ∧ bdL st.length ws = true ∧ OldOk st st1 then .ok (.loc st.length) (st1.take st.length ++ [.lst ws]) else .stuck
      | _ => .stuck
    | _ => .stuck
noncomputable def finX (m : Mode) (st : Store) (x : Ex) (st1 : Store) : R W := match m with
  | .raw => .exc x st1
  | _ => if x.bd st.length = true ∧ OldOk st st1 then .exc x (st1.take st.length) else .stuck
/-- a def's call: n slots -/
noncomputable def runDef (n : Nat) (m : Mode) (body : IS) : Fn := fun args st => match body (args.map some ++ List.replicate (n - args.length) none) st with
  | .nx _ st1 => fin m st .non st1
  | .ret w st1 => fin m st w st1
  | .exc x _ st1 => finX m st x st1
  | _ => .stuck

/-! expressions -/
@[simp] def eVar (i : Nat) : IE := fun env st => match env[i]? with
  | some (some w) => .ok w st
  | _ => .stuck
@[simp] def eC (w : W) : IE := fun _ st => .ok w st
@[simp] def eOp (f : W → W → Store → R W) (a b : IE) : IE := fun env st => (a env st).bind fun x s1 => (b env s1).bind fun y s2 => f x y s2
@[simp] def eUn (f : W → Store → R W) (a : IE) : IE := fun env st => (a env st).bind fun x s1 => f x s1
@[simp] def eArgs : List IE → IL
  | [] => fun _ st => .ok [] st
  | e :: es => fun env st => (e env st).bind fun x s1 => (eArgs es env s1).bind fun xs s2 => .ok (x :: xs) s2
@[simp] def eCall (f : Fn) (as : List IE) : IE := fun env st => (eArgs as env st).bind f
@[simp] def eTup (as : List IE) : IE := fun env st => (eArgs as env st).bind fun xs s => .ok (.tup xs) s
@[simp] def eLst (l : IL) : IE := fun env st => (l env st).bind fun xs s => .ok (.lst xs) s
/-- a new list with these items, that may be changed -/
@[simp] def eNew (l : IL) : IE := fun env st => (l env st).bind fun xs s => .ok (.loc s.length) (s ++ [.lst xs])
@[simp] def eIf (t : IT) (a b : IE) : IE := fun env st => (t env st).bind fun c s => if c = true then a env s else b env s
@[simp] def eAndV (a b : IE) : IE := fun env st => (a env st).bind fun x s => match x with
  | .bl true => b env s
  | .bl false => .ok (.bl false) s
  | _ => .stuck
@[simp] def eOrV (a b : IE) : IE := fun env st => (a env st).bind fun x s => match x with
  | .bl true => .ok (.bl true) s
  | .bl false => b env s
  | _ => .stuck
@[simp] def eNotV (a : IE) : IE := fun env st => (a env st).bind fun x s => match x with
  | .bl c => .ok (.bl (!c)) s
  | _ => .stuck

/-! tests -/
@[simp] def tVal (a : IE) : IT := fun env st => (a env st).bind fun x s => match x with
  | .bl c => .ok c s
  | _ => .stuck
@[simp] def tAnd (a b : IT) : IT := fun env st => (a env st).bind fun c s => if c = true then b env s else .ok false s
@[simp] def tOr (a b : IT) : IT := fun env st => (a env st).bind fun c s => if c = true then .ok true s else b env s
@[simp] def tNot (a : IT) : IT := fun env st => (a env st).bind fun c s => .ok (!c) s
/-- a value's truth -/
@[simp] def truth (x : W) (st : Store) : R Bool := match x with
  | .non => .ok false st
  | .bl b => .ok b st
  | .int i => .ok (i != 0) st
  | .str s => if s.length ≤ lim then .ok (!s.isEmpty) st else .stuck
  | .tup ws => .ok (!ws.isEmpty) st
  | .lst ws => .ok (!ws.isEmpty) st
  | .ro ws => .ok (!ws.isEmpty) st
  | .loc n => match st[n]? with
    | some (.lst ws) => .ok (!ws.isEmpty) st
    | _ => .stuck
@[simp] def tTru (a : IE) : IT := fun env st => (a env st).bind fun x s => truth x s

/-! statements -/
@[simp] def sSkip : IS := fun env st => .nx env st
@[simp] def sSeq (a b : IS) : IS := fun env st => match a env st with
  | .nx e s => b e s
  | r => r
def sBlk : List IS → IS
  | [] => sSkip
  | [s] => s
  | s :: r => sSeq s (sBlk r)
@[simp] def sSet (i : Nat) (a : IE) : IS := fun env st => match a env st with
  | .ok w s => .nx (env.set i (some w)) s
  | .exc x s => .exc x env s
  | .stuck => .stuck
@[simp] def sDrop (a : IE) : IS := fun env st => match a env st with
  | .ok _ s => .nx env s
  | .exc x s => .exc x env s
  | .stuck => .stuck
@[simp] def sRet (a : IE) : IS := fun env st => match a env st with
  | .ok w s => .ret w s
  | .exc x s => .exc x env s
  | .stuck => .stuck
@[simp] def sIf (t : IT) (a b : IS) : IS := fun env st => match t env st with
  | .ok c s => if c = true then a env s else b env s
  | .exc x s => .exc x env s
  | .stuck => .stuck
@[simp] def sBrk : IS := fun env st => .brk env st
@[simp] def sCnt : IS := fun env st => .cnt env st
@[simp] def sNever : IS := fun _ _ => .stuck

/-! targets: the slots that are stored, and how -/
structure Tg where
  slots : List Nat
  run : W → Env → Option Env
@[simp] def tgName (i : Nat) : Tg := ⟨[i], fun w env => some (env.set i (some w))⟩
@[simp] def tgAll : List Tg → List W → Env → Option Env
  | [], [], env => some env
  | t :: ts, w :: ws, env => (t.run w env).bind fun e => tgAll ts ws e
  | _, _, _ => none
@[simp] def tgTup (ts : List Tg) : Tg := ⟨ts.flatMap (·.slots), fun w env => match w with
  | .tup ws => tgAll ts ws env
  | _ => none⟩
@[simp] def sAsg (g : Tg) (a : IE) : IS := fun env st => match a env st with
  | .ok w s => match g.run w env with
    | some e => .nx e s
    | none => .stuck
  | .exc x s => .exc x env s
  | .stuck => .stuck

/-! what is walked: the items, and what must be so of the store at each turn -/
structure It where
  items : List W
  guard : Store → Prop
abbrev II := Env → Store → R It
noncomputable def forGo (G : Store → Prop) (g : Tg) (body : IS) : List W → Env → Store → RS
  | [], env, st => if G st then .nx env st else .stuck
  | w :: ws, env, st => if G st then (match g.run w env with
    | none => .stuck
    | some e => match body e st with
      | .nx e1 s1 => forGo G g body ws e1 s1
      | .cnt e1 s1 => forGo G g body ws e1 s1
      | .brk e1 s1 => .nx e1 s1
      | r => r) else .stuck
@[simp] noncomputable def sFor (it : II) (g : Tg) (body : IS) : IS := fun env st => match it env st with
  | .ok I s => forGo I.guard g body I.items env s
  | .exc x s => .exc x env s
  | .stuck => .stuck

def whileN (t : IT) (body : IS) : Nat → Env → Store → RS
  | 0, _, _ => .stuck
  | n + 1, env, st => match t env st with
    | .ok true s => match body env s with
      | .nx e1 s1 => whileN t body n e1 s1
      | .cnt e1 s1 => whileN t body n e1 s1
      | .brk e1 s1 => .nx e1 s1
      | r => r
    | .ok false s => .nx env s
    | .exc x s => .exc x env s
    | .stuck => .stuck
noncomputable def sWhile (t : IT) (body : IS) : IS := fun env st => if h : ∃ n, whileN t body n env st ≠ .stuck then whileN t body h.choose env st else .stuck

/-- the list of a comprehension: own: the slots of its own names -/
@[simp] def wipeE (env : Env) : List Nat → Env
  | [] => env
  | i :: is => wipeE (env.set i none) is
noncomputable def lcGo (G : Store → Prop) (g : Tg) (t : IT) (elt : IE) (env : Env) : List W → Store → List W → R (List W)
  | [], st, acc => if G st then .ok acc st else .stuck
  | w :: ws, st, acc => if G st then (match g.run w env with
    | none => .stuck
    | some e => match t e st with
      | .ok true s1 => match elt e s1 with
        | .ok y s2 => if acc.length < lim then lcGo G g t elt env ws s2 (acc ++ [y]) else .stuck
        | _ => .stuck
      | .ok false s1 => lcGo G g t elt env ws s1 acc
      | _ => .stuck) else .stuck
@[simp] noncomputable def lLC (it : II) (g : Tg) (t : IT) (elt : IE) (own : List Nat) : IL := fun env st => (it env st).bind fun I s => lcGo I.guard g t elt (wipeE env own) I.items s []
@[simp] def tYes : IT := fun _ st => .ok true st

/-! iterables -/
@[simp] def itSeq (x : W) (st : Store) : R It := match x with
  | .tup ws => .ok ⟨ws, fun _ => True⟩ st
  | .lst ws => .ok ⟨ws, fun _ => True⟩ st
  | .ro ws => .ok ⟨ws, fun _ => True⟩ st
  | .loc n => match st[n]? with
    | some (.lst ws) => .ok ⟨ws, fun s => s[n]? = some (.lst ws)⟩ st
    | _ => .stuck
  | _ => .stuck
@[simp] def iSeq (a : IE) : II := fun env st => (a env st).bind itSeq
def upTo (lo : Int) (n : Nat) : List W := (List.range n).map fun (k : Nat) => W.int (lo + (k : Int))
/-- ints that a range may have as its ends -/
def inR (j : Int) : Prop := -(2 ^ 62) ≤ j ∧ j < 2 ^ 62
@[simp] noncomputable def itRange (xs : List W) (st : Store) : R It := match xs with
  | [.int j] => if inR j then .ok ⟨upTo 0 j.toNat, fun _ => True⟩ st else .stuck
  | [.int i, .int j] => if inR i ∧ inR j then .ok ⟨upTo i (j - i).toNat, fun _ => True⟩ st else .stuck
  | _ => .stuck
@[simp] noncomputable def iRange (as : List IE) : II := fun env st => (eArgs as env st).bind itRange
def enumFrom (k : Nat) : List W → List W
  | [] => []
  | w :: ws => .tup [.int (k : Int), w] :: enumFrom (k + 1) ws
@[simp] def iEnum (a : IE) : II := fun env st => (a env st).bind fun x s => (itSeq x s).bind fun I s1 => .ok ⟨enumFrom 0 I.items, I.guard⟩ s1
def zipW : List W → List W → List W
  | a :: as, b :: bs => .tup [a, b] :: zipW as bs
  | _, _ => []
@[simp] def iZip (a b : IE) : II := fun env st => (a env st).bind fun x s => (b env s).bind fun y s1 => (itSeq x s1).bind fun I s2 => (itSeq y s2).bind fun J s3 => .ok ⟨zipW I.items J.items, fun s => I.guard s ∧ J.guard s⟩ s3
end M

-- Ops
set_option autoImplicit false
set_option linter.all false
namespace M
open Classical

/-! equality of data; what may be compared: nothing that may change, of some depth -/
mutual
def W.eqv : W → W → Bool
  | .non, .non => true
  | .bl a, .bl b => a == b
  | .bl a, .int j => (if a then 1 else 0) == j
  | .int i, .bl b => i == (if b then 1 else 0)
  | .int i, .int j => i == j
  | .str a, .str b => a == b
  | .tup as, .tup bs => eqvL as bs
  | .lst as, .lst bs => eqvL as bs
  | .lst as, .ro bs => eqvL as bs
  | .ro as, .lst bs => eqvL as bs
  | .ro as, .ro bs => eqvL as bs
  | _, _ => false
def eqvL : List W → List W → Bool
  | [], [] => true
  | a :: as, b :: bs => a.eqv b && eqvL as bs
  | _, _ => false
end
mutual
def W.okD : W → Nat → Bool
  | .str s, _ => s.all (· < 1114112)
  | .tup ws, n + 1 => okDL ws n
  | .lst ws, n + 1 => okDL ws n
  | .ro ws, n + 1 => okDL ws n
  | .tup _, 0 => false
  | .lst _, 0 => false
  | .ro _, 0 => false
  | .loc _, _ => false
  | _, _ => true
def okDL : List W → Nat → Bool
  | [], _ => true
  | w :: ws, n => w.okD n && okDL ws n
end
/-- a store's list as it stands -/
@[simp] def look (st : Store) (w : W) : W := match w with
  | .loc n => match st[n]? with
    | some (.lst ws) => .lst ws
    | _ => w
  | _ => w
@[simp] def opEq (x y : W) (st : Store) : R W := if (look st x).okD 64 = true ∧ (look st y).okD 64 = true then .ok (.bl ((look st x).eqv (look st y))) st else .stuck
@[simp] def opNe (x y : W) (st : Store) : R W := if (look st x).okD 64 = true ∧ (look st y).okD 64 = true then .ok (.bl (!(look st x).eqv (look st y))) st else .stuck

/-! ints -/
@[simp] def opI (g : Int → Int → W) (x y : W) (st : Store) : R W := match x, y with
  | .int i, .int j => .ok (g i j) st
  | _, _ => .stuck
@[simp] noncomputable def opIc (c : Int → Int → Prop) (g : Int → Int → W) (x y : W) (st : Store) : R W := match x, y with
  | .int i, .int j => if c i j then .ok (g i j) st else .stuck
  | _, _ => .stuck
@[simp] def opSub := opI fun i j => .int (i - j)
def cMul (i j : Int) : Prop := (-(2 ^ 64) < i ∧ i < 2 ^ 64) ∨ (-(2 ^ 64) < j ∧ j < 2 ^ 64) ∨ i.natAbs.log2 + j.natAbs.log2 < 1000000
@[simp] noncomputable def opMul := opIc cMul fun i j => .int (i * j)
@[simp] noncomputable def opDiv := opIc (fun _ j => 0 < j ∧ j.natAbs.log2 < 9000) fun i j => .int (i / j)
@[simp] noncomputable def opMod := opIc (fun _ j => 0 < j) fun i j => .int (i % j)
def cPow (i j : Int) : Prop := 0 ≤ j ∧ j ≤ 1000000 ∧ i.natAbs < 2 ^ 64
@[simp] noncomputable def opPow := opIc cPow fun i j => .int (i ^ j.toNat)
@[simp] noncomputable def opShl := opIc cPow fun i j => .int (i * 2 ^ j.toNat)
@[simp] noncomputable def opShr := opIc (fun _ j => 0 ≤ j) fun i j => .int (i / 2 ^ j.toNat)
@[simp] def opLt := opI fun i j => .bl (decide (i < j))
@[simp] def opLe := opI fun i j => .bl (decide (i ≤ j))
@[simp] def opGt := opI fun i j => .bl (decide (j < i))
@[simp] def opGe := opI fun i j => .bl (decide (j ≤ i))
/-- bits of ints that are not negative -/
@[simp] noncomputable def opAnd := opIc (fun i j => 0 ≤ i ∧ 0 ≤ j) fun i j => .int ((i.toNat &&& j.toNat : Nat) : Int)
@[simp] noncomputable def opOr := opIc (fun i j => 0 ≤ i ∧ 0 ≤ j) fun i j => .int ((i.toNat ||| j.toNat : Nat) : Int)
@[simp] noncomputable def opXor := opIc (fun i j => 0 ≤ i ∧ 0 ≤ j) fun i j => .int ((i.toNat ^^^ j.toNat : Nat) : Int)
@[simp] def lstOf (st : Store) (w : W) : Option (List W) := match w with
  | .lst ws => some ws
  | .loc n => match st[n]? with
    | some (.lst ws) => some ws
    | _ => none
  | _ => none
@[simp] def opAdd (x y : W) (st : Store) : R W := match x, y with
  | .int i, .int j => .ok (.int (i + j)) st
  | .str a, .str b => if a.length + b.length ≤ lim then .ok (.str (a ++ b)) st else .stuck
  | .tup a, .tup b => if a.length + b.length ≤ lim then .ok (.tup (a ++ b)) st else .stuck
  | x, y => match lstOf st x, lstOf st y with
    | some a, some b => if a.length + b.length ≤ lim then .ok (.lst (a ++ b)) st else .stuck
    | _, _ => .stuck
/-- .. of lists, a new one -/
@[simp] def lCat (a b : IE) : IL := fun env st => (a env st).bind fun x s1 => (b env s1).bind fun y s2 => match lstOf s2 x, lstOf s2 y with
  | some xs, some ys => if xs.length + ys.length ≤ lim then .ok (xs ++ ys) s2 else .stuck
  | _, _ => .stuck

/-! in, is -/
def W.flat : W → Bool
  | .non => true
  | .bl _ => true
  | .int _ => true
  | .str _ => true
  | _ => false
/-- a list's or tuple's items -/
@[simp] def seqOf (st : Store) (w : W) : Option (List W) := match w with
  | .tup ws => some ws
  | .lst ws => some ws
  | .ro ws => some ws
  | .loc n => match st[n]? with
    | some (.lst ws) => some ws
    | _ => none
  | _ => none
def allFlat (ws : List W) : Bool := ws.all W.flat
def hasW (ws : List W) (x : W) : Bool := ws.any fun y => y.eqv x
@[simp] def opIn (neg : Bool) (x y : W) (st : Store) : R W := match seqOf st y with
  | some ws => if x.flat = true ∧ allFlat ws = true then .ok (.bl (if neg then !hasW ws x else hasW ws x)) st else .stuck
  | none => .stuck
@[simp] def W.isNon : W → Bool
  | .non => true
  | _ => false
@[simp] def opIsN (x y : W) (st : Store) : R W := match y with
  | .non => .ok (.bl x.isNon) st
  | _ => .stuck
@[simp] def opNotN (x y : W) (st : Store) : R W := match y with
  | .non => .ok (.bl (!x.isNon)) st
  | _ => .stuck
@[simp] def unNeg (x : W) (st : Store) : R W := match x with
  | .int i => .ok (.int (-i)) st
  | _ => .stuck

/-! places -/
@[simp] def ixW (n : Nat) (i : Int) : Option Nat := if 0 ≤ i then (if i < n then some i.toNat else none) else if -(n : Int) ≤ i then some (i + n).toNat else none
def atW (ws : List W) (i : Int) : Option W := (ixW ws.length i).bind fun j => ws[j]?
@[simp] def opIx (x y : W) (st : Store) : R W := match seqOf st x, y with
  | some ws, .int i => match atW ws i with
    | some w => .ok w st
    | none => .stuck
  | _, _ => .stuck
/-- x[i] = v, a list of the store -/
@[simp] def setIx (x y v : W) (st : Store) : Option Store := match x, y with
  | .loc n, .int i => match st[n]? with
    | some (.lst ws) => match ixW ws.length i with
      | some j => some (st.set n (.lst (ws.set j v)))
      | none => none
    | _ => none
  | _, _ => none
@[simp] def sSetIx (o i a : IE) : IS := fun env st => match a env st with
  | .ok v s => (match o env s with
    | .ok x s1 => (match i env s1 with
      | .ok y s2 => (match setIx x y v s2 with
        | some s3 => .nx env s3
        | none => .stuck)
      | .exc x s => .exc x env s
      | .stuck => .stuck)
    | .exc x s => .exc x env s
    | .stuck => .stuck)
  | .exc x s => .exc x env s
  | .stuck => .stuck
def sIxN (n : Nat) (d : Nat) : Option Int → Nat
  | none => d
  | some i => if i < 0 then (i + n).toNat else min i.toNat n
def cutW (ws : List W) (lo hi : Option Int) : List W := (ws.drop (sIxN ws.length 0 lo)).take (sIxN ws.length ws.length hi - sIxN ws.length 0 lo)
@[simp] def part (a : Option IE) : Env → Store → R (Option Int) := match a with
  | none => fun _ st => .ok none st
  | some e => fun env st => (e env st).bind fun x s => match x with
    | .int i => .ok (some i) s
    | _ => .stuck
@[simp] def lSl (e : IE) (lo hi : Option IE) : IL := fun env st => (e env st).bind fun x s1 => (part lo env s1).bind fun l s2 => (part hi env s2).bind fun h s3 => match x with
  | .lst ws => .ok (cutW ws l h) s3
  | .ro ws => .ok (cutW ws l h) s3
  | .loc n => match s3[n]? with
    | some (.lst ws) => .ok (cutW ws l h) s3
    | _ => .stuck
  | _ => .stuck
@[simp] def eSlT (e : IE) (lo hi : Option IE) : IE := fun env st => (e env st).bind fun x s1 => (part lo env s1).bind fun l s2 => (part hi env s2).bind fun h s3 => match x with
  | .tup ws => .ok (.tup (cutW ws l h)) s3
  | _ => .stuck

/-! built-in functions -/
@[simp] def bLen (xs : List W) (st : Store) : R W := match xs with
  | [.str s] => if s.length ≤ lim then .ok (.int s.length) st else .stuck
  | [x] => match seqOf st x with
    | some ws => .ok (.int ws.length) st
    | none => .stuck
  | _ => .stuck
@[simp] def bInt (xs : List W) (st : Store) : R W := match xs with
  | [.int i] => .ok (.int i) st
  | [.bl b] => .ok (.int (if b then 1 else 0)) st
  | _ => .stuck
@[simp] def eB (f : List W → Store → R W) (as : List IE) : IE := fun env st => (eArgs as env st).bind f
@[simp] def lList (a : IE) : IL := fun env st => (a env st).bind fun x s => match seqOf s x with
  | some ws => .ok ws s
  | none => .stuck
@[simp] def bTup (xs : List W) (st : Store) : R W := match xs with
  | [x] => match seqOf st x with
    | some ws => .ok (.tup ws) st
    | none => .stuck
  | _ => .stuck
/-- isinstance(x, T) -/
@[simp] def tyOf (st : Store) (w : W) : Option String := match w with
  | .non => some "NoneType"
  | .bl _ => some "bool"
  | .int _ => some "int"
  | .str _ => some "str"
  | .tup _ => some "tuple"
  | .lst _ => some "list"
  | .ro _ => none
  | .loc n => match st[n]? with
    | some (.lst _) => some "list"
    | _ => none
@[simp] def isT (a T : String) : Bool := a == T || (a == "bool" && T == "int")
@[simp] def eIsi (T : String) (a : IE) : IE := fun env st => (a env st).bind fun x s => match tyOf s x with
  | some t => .ok (.bl (isT t T)) s
  | none => .stuck
def bitsN (i : Int) : Nat := if i = 0 then 0 else i.natAbs.log2 + 1
@[simp] def eBits (a : IE) : IE := fun env st => (a env st).bind fun x s => match x with
  | .int i => .ok (.int (bitsN i)) s
  | _ => .stuck
/-- o.m(..), a built-in's method by values -/
@[simp] def tyM (st : Store) (T : String) (x : W) : Bool := match x with
  | .str _ => T == "str"
  | .int _ => T == "int"
  | .lst _ => T == "list"
  | .ro _ => T == "list"
  | .loc n => match st[n]? with
    | some (.lst _) => T == "list"
    | _ => false
  | _ => false
@[simp] def eBm (T : String) (f : W → List W → Store → R W) (o : IE) (as : List IE) : IE := fun env st => (o env st).bind fun x s1 => if tyM s1 T x = true then (eArgs as env s1).bind fun xs s2 => f x xs s2 else .stuck
@[simp] def mApp (x : W) (xs : List W) (st : Store) : R W := match x, xs with
  | .loc n, [y] => match st[n]? with
    | some (.lst ws) => if ws.length < lim then .ok .non (st.set n (.lst (ws ++ [y]))) else .stuck
    | _ => .stuck
  | _, _ => .stuck
end M

-- Rel
set_option Elab.async false
set_option autoImplicit false
set_option linter.all false
set_option maxRecDepth 100000
namespace M
open PySem L2

/-- what is fixed: the written part, the classes by name -/
structure Gm where
  K : PySem.W.Frag
  cl : String → Option Value

/-- where the store's objects lie; off: lists in the making, that no value may name -/
structure Pl where
  at_ : List Addr
  off : List Addr
def Pl.add (ρ : Pl) (p : Addr) : Pl := ⟨ρ.at_ ++ [p], ρ.off⟩
section
variable {Γ : Gm} {ρ ρ' ρ₁ ρ₂ : Pl} {H H' H₁ H₂ : Hp} {st st' : Store} {w w' : W} {ws ws' : List W} {v v' : V} {vs vs' : List V} {a p : Addr}


/-- a list that nobody changes: not one of the store's; one that is not ours -/
def LstAt (ρ : Pl) (H : Hp) (a : Addr) (vs : List V) : Prop := H a = some (.lst vs) ∧ a ∉ ρ.at_ ∧ a ∉ ρ.off
def RoAt (Γ : Gm) (ρ : Pl) (H : Hp) (a : Addr) (vs : List V) : Prop := (Rd H a (.lst vs) ∧ a ∉ ρ.at_ ∧ a ∉ ρ.off) ∨ SqL Γ.K (fun _ => none) a vs
mutual
def RepV (Γ : Gm) (ρ : Pl) (H : Hp) : W → V → Prop
  | .non, v => v = .non
  | .bl b, v => v = .bl b
  | .int i, v => v = .int i
  | .str s, v => ∃ x : Str, v = .str x ∧ x.cps.toList = s
  | .tup ws, v => ∃ a vs, v = .ref a ∧ SqT Γ.K H a vs ∧ RepL Γ ρ H ws vs
  | .lst ws, v => ∃ a vs, v = .ref a ∧ LstAt ρ H a vs ∧ RepL Γ ρ H ws vs
  | .ro ws, v => ∃ a vs, v = .ref a ∧ RoAt Γ ρ H a vs ∧ RepL Γ ρ H ws vs
  | .loc n, v => ∃ a, v = .ref a ∧ ρ.at_[n]? = some a
def RepL (Γ : Gm) (ρ : Pl) (H : Hp) : List W → List V → Prop
  | [], vs => vs = []
  | w :: ws, vs => ∃ v r, vs = v :: r ∧ RepV Γ ρ H w v ∧ RepL Γ ρ H ws r
end

/-- what came behind: the places stay, tuples stay, what is not the store's stays and stays so -/
structure Ext (Γ : Gm) (ρ : Pl) (H : Hp) (ρ' : Pl) (H' : Hp) : Prop where
  pre : ∀ (n : Nat) (a : Addr), ρ.at_[n]? = some a → ρ'.at_[n]? = some a
  tup : ∀ a vs, SqT Γ.K H a vs → SqT Γ.K H' a vs
  frm : ∀ a o, H a = some o → a ∉ ρ.at_ → H' a = some o ∧ a ∉ ρ'.at_
  off : ρ'.off = ρ.off
theorem Ext.refl : Ext Γ ρ H ρ H := ⟨fun _ _ h => h, fun _ _ h => h, fun _ _ h n => ⟨h, n⟩, rfl⟩
theorem Ext.trans (x : Ext Γ ρ H ρ₁ H₁) (y : Ext Γ ρ₁ H₁ ρ₂ H₂) : Ext Γ ρ H ρ₂ H₂ :=
  ⟨fun n a h => y.pre n a (x.pre n a h), fun a vs h => y.tup a vs (x.tup a vs h), fun a o h n => let ⟨h1, n1⟩ := x.frm a o h n; y.frm a o h1 n1, y.off.trans x.off⟩
/-- the weaker one: the lists in the making may change, and others may begin -/
structure Ext0 (Γ : Gm) (ρ : Pl) (H : Hp) (ρ' : Pl) (H' : Hp) : Prop where
  pre : ∀ (n : Nat) (a : Addr), ρ.at_[n]? = some a → ρ'.at_[n]? = some a
  tup : ∀ a vs, SqT Γ.K H a vs → SqT Γ.K H' a vs
  frm : ∀ a o, H a = some o → a ∉ ρ.at_ → a ∉ ρ.off → H' a = some o ∧ a ∉ ρ'.at_ ∧ a ∉ ρ'.off
theorem Ext.zero (x : Ext Γ ρ H ρ' H') : Ext0 Γ ρ H ρ' H' := ⟨x.pre, x.tup, fun a o h n m => let ⟨h1, n1⟩ := x.frm a o h n; ⟨h1, n1, by rw [x.off]; exact m⟩⟩
theorem Ext0.trans (x : Ext0 Γ ρ H ρ₁ H₁) (y : Ext0 Γ ρ₁ H₁ ρ₂ H₂) : Ext0 Γ ρ H ρ₂ H₂ :=
  ⟨fun n a h => y.pre n a (x.pre n a h), fun a vs h => y.tup a vs (x.tup a vs h), fun a o h n m => let ⟨h1, n1, m1⟩ := x.frm a o h n m; y.frm a o h1 n1 m1⟩
theorem LstAt.ext0 (x : Ext0 Γ ρ H ρ' H') (h : LstAt ρ H a vs) : LstAt ρ' H' a vs := let ⟨h, n, m⟩ := h; let ⟨h1, n1, m1⟩ := x.frm a _ h n m; ⟨h1, n1, m1⟩
theorem RoAt.ext0 (x : Ext0 Γ ρ H ρ' H') (h : RoAt Γ ρ H a vs) : RoAt Γ ρ' H' a vs := by
  rcases h with ⟨h | ⟨o, h⟩, n, m⟩ | h
  · obtain ⟨h1, n1, m1⟩ := x.frm a _ h n m
    exact .inl ⟨.inl h1, n1, m1⟩
  · obtain ⟨h1, n1, m1⟩ := x.frm a _ h n m
    exact .inl ⟨.inr ⟨o, h1⟩, n1, m1⟩
  · exact .inr h
theorem LstAt.cut (hs : ∀ a, a ∈ ρ'.at_ ∨ a ∈ ρ'.off → a ∈ ρ.at_ ∨ a ∈ ρ.off) (h : LstAt ρ H a vs) : LstAt ρ' H a vs := let ⟨h, n, m⟩ := h; ⟨h, fun z => (hs a (.inl z)).elim n m, fun z => (hs a (.inr z)).elim n m⟩
theorem RoAt.cut (hs : ∀ a, a ∈ ρ'.at_ ∨ a ∈ ρ'.off → a ∈ ρ.at_ ∨ a ∈ ρ.off) (h : RoAt Γ ρ H a vs) : RoAt Γ ρ' H a vs := by
  rcases h with ⟨h, n, m⟩ | h
  · exact .inl ⟨h, fun z => (hs a (.inl z)).elim n m, fun z => (hs a (.inr z)).elim n m⟩
  · exact .inr h
theorem LstAt.seq (h : LstAt ρ H a vs) : SqL Γ.K H a vs := .of h.1
theorem RoAt.seq (h : RoAt Γ ρ H a vs) : SqL Γ.K H a vs := by
  rcases h with ⟨h, _⟩ | h | h
  · exact .inl h
  · rcases h with h | ⟨o, h⟩ <;> cases h
  · exact .inr h
mutual
theorem RepV.ext0 (x : Ext0 Γ ρ H ρ' H') : ∀ {w : W} {v : V}, RepV Γ ρ H w v → RepV Γ ρ' H' w v
  | .non, _, h => h
  | .bl _, _, h => h
  | .int _, _, h => h
  | .str _, _, h => h
  | .tup ws, _, h => let ⟨a, vs, e, t, r⟩ := h; ⟨a, vs, e, x.tup a vs t, RepL.ext0 x r⟩
  | .lst ws, _, h => let ⟨a, vs, e, t, r⟩ := h; ⟨a, vs, e, t.ext0 x, RepL.ext0 x r⟩
  | .ro ws, _, h => let ⟨a, vs, e, t, r⟩ := h; ⟨a, vs, e, t.ext0 x, RepL.ext0 x r⟩
  | .loc n, _, h => let ⟨a, e, t⟩ := h; ⟨a, e, x.pre n a t⟩
theorem RepL.ext0 (x : Ext0 Γ ρ H ρ' H') : ∀ {ws : List W} {vs : List V}, RepL Γ ρ H ws vs → RepL Γ ρ' H' ws vs
  | [], _, h => h
  | w :: ws, _, h => let ⟨v, r, e, a, b⟩ := h; ⟨v, r, e, RepV.ext0 x a, RepL.ext0 x b⟩
end
theorem RepV.ext (x : Ext Γ ρ H ρ' H') (h : RepV Γ ρ H w v) : RepV Γ ρ' H' w v := h.ext0 x.zero
theorem RepL.ext (x : Ext Γ ρ H ρ' H') (h : RepL Γ ρ H ws vs) : RepL Γ ρ' H' ws vs := h.ext0 x.zero
theorem RepL.len : ∀ {ws : List W} {vs : List V}, RepL Γ ρ H ws vs → vs.length = ws.length
  | [], _, h => by cases h; rfl
  | w :: ws, _, h => by
    obtain ⟨v, r, rfl, _, b⟩ := h
    simp [RepL.len b]
theorem RepL.get : ∀ {ws : List W} {vs : List V} {i : Nat} {w : W}, RepL Γ ρ H ws vs → ws[i]? = some w → ∃ v, vs[i]? = some v ∧ RepV Γ ρ H w v
  | [], _, _, _, _, e => by simp at e
  | w :: ws, _, 0, _, h, e => by
    obtain ⟨v, r, rfl, a, _⟩ := h
    cases e
    exact ⟨v, rfl, a⟩
  | w :: ws, _, i + 1, _, h, e => by
    obtain ⟨v, r, rfl, _, b⟩ := h
    obtain ⟨u, hu, ru⟩ := RepL.get b (i := i) (by simpa using e)
    exact ⟨u, by simpa using hu, ru⟩
theorem RepL.back : ∀ {ws : List W} {vs : List V} {i : Nat} {v : V}, RepL Γ ρ H ws vs → vs[i]? = some v → ∃ w, ws[i]? = some w ∧ RepV Γ ρ H w v := fun {ws vs i v} h e => by
  have hi : i < ws.length := by
    rw [← h.len]
    exact (List.getElem?_eq_some_iff.mp e).1
  obtain ⟨u, hu, r⟩ := h.get (List.getElem?_eq_getElem hi)
  rw [e] at hu
  cases hu
  exact ⟨_, List.getElem?_eq_getElem hi, r⟩
theorem RepL.nil : RepL Γ ρ H [] [] := rfl
theorem RepL.cons (h : RepV Γ ρ H w v) (t : RepL Γ ρ H ws vs) : RepL Γ ρ H (w :: ws) (v :: vs) := ⟨v, vs, rfl, h, t⟩
theorem RepL.app : ∀ {ws : List W} {vs : List V}, RepL Γ ρ H ws vs → RepL Γ ρ H ws' vs' → RepL Γ ρ H (ws ++ ws') (vs ++ vs')
  | [], _, h, t => by cases h; exact t
  | w :: ws, _, h, t => by
    obtain ⟨v, r, rfl, a, b⟩ := h
    exact ⟨v, r ++ vs', rfl, a, b.app t⟩
theorem RepL.one (h : RepV Γ ρ H w v) : RepL Γ ρ H [w] [v] := .cons h .nil
theorem RepL.set : ∀ {ws : List W} {vs : List V} (i : Nat), RepL Γ ρ H ws vs → RepV Γ ρ H w v → RepL Γ ρ H (ws.set i w) (vs.set i v)
  | [], _, _, h, _ => by cases h; exact rfl
  | w :: ws, _, 0, h, t => by
    obtain ⟨u, r, rfl, a, b⟩ := h
    exact ⟨_, _, rfl, t, b⟩
  | w :: ws, _, i + 1, h, t => by
    obtain ⟨u, r, rfl, a, b⟩ := h
    exact ⟨u, r.set i _, rfl, a, b.set i t⟩
theorem RepL.take : ∀ {ws : List W} {vs : List V} (n : Nat), RepL Γ ρ H ws vs → RepL Γ ρ H (ws.take n) (vs.take n)
  | _, _, 0, _ => by simp [RepL]
  | [], _, n + 1, h => by cases h; exact rfl
  | w :: ws, _, n + 1, h => by
    obtain ⟨u, r, rfl, a, b⟩ := h
    exact ⟨u, r.take n, rfl, a, b.take n⟩
theorem RepL.drop : ∀ {ws : List W} {vs : List V} (n : Nat), RepL Γ ρ H ws vs → RepL Γ ρ H (ws.drop n) (vs.drop n)
  | _, _, 0, h => by simpa using h
  | [], _, n + 1, h => by cases h; exact rfl
  | w :: ws, _, n + 1, h => by
    obtain ⟨u, r, rfl, a, b⟩ := h
    exact b.drop n
theorem RepL.all {P : V → Bool} (h : RepL Γ ρ H ws vs) (k : ∀ w v, w ∈ ws → RepV Γ ρ H w v → P v = true) : vs.all P = true := by
  rw [List.all_eq_true]
  intro v hv
  obtain ⟨i, hi⟩ := List.getElem?_of_mem hv
  obtain ⟨w, hw, r⟩ := h.back hi
  exact k w v (List.mem_of_getElem? hw) r

mutual
theorem RepV.bd : ∀ {w : W} {v : V}, RepV Γ ρ H w v → w.bd ρ.at_.length = true
  | .non, _, _ => by simp [W.bd]
  | .bl _, _, _ => by simp [W.bd]
  | .int _, _, _ => by simp [W.bd]
  | .str _, _, _ => by simp [W.bd]
  | .tup ws, _, h => by
    obtain ⟨a, vs, _, _, r⟩ := h
    simpa [W.bd] using RepL.bd r
  | .lst ws, _, h => by
    obtain ⟨a, vs, _, _, r⟩ := h
    simpa [W.bd] using RepL.bd r
  | .ro ws, _, h => by
    obtain ⟨a, vs, _, _, r⟩ := h
    simpa [W.bd] using RepL.bd r
  | .loc n, _, h => by
    obtain ⟨a, _, t⟩ := h
    simpa [W.bd] using (List.getElem?_eq_some_iff.mp t).1
theorem RepL.bd : ∀ {ws : List W} {vs : List V}, RepL Γ ρ H ws vs → bdL ρ.at_.length ws = true
  | [], _, _ => by simp [bdL]
  | w :: ws, _, h => by
    obtain ⟨v, r, _, a, b⟩ := h
    simp [bdL, RepV.bd a, RepL.bd b]
end
mutual
/-- fewer places -/
theorem RepV.cut {n : Nat} (hp : ∀ (m : Nat) a, m < n → ρ.at_[m]? = some a → ρ'.at_[m]? = some a) (hs : ∀ a, a ∈ ρ'.at_ ∨ a ∈ ρ'.off → a ∈ ρ.at_ ∨ a ∈ ρ.off) : ∀ {w : W} {v : V}, w.bd n = true → RepV Γ ρ H w v → RepV Γ ρ' H w v
  | .non, _, _, h => h
  | .bl _, _, _, h => h
  | .int _, _, _, h => h
  | .str _, _, _, h => h
  | .tup ws, _, n, h => let ⟨a, vs, e, t, r⟩ := h; ⟨a, vs, e, t, RepL.cut hp hs (by simpa [W.bd] using n) r⟩
  | .lst ws, _, n, h => let ⟨a, vs, e, t, r⟩ := h; ⟨a, vs, e, t.cut hs, RepL.cut hp hs (by simpa [W.bd] using n) r⟩
  | .ro ws, _, n, h => let ⟨a, vs, e, t, r⟩ := h; ⟨a, vs, e, t.cut hs, RepL.cut hp hs (by simpa [W.bd] using n) r⟩
  | .loc m, _, n, h => let ⟨a, e, t⟩ := h; ⟨a, e, hp m a (by simpa [W.bd] using n) t⟩
theorem RepL.cut {n : Nat} (hp : ∀ (m : Nat) a, m < n → ρ.at_[m]? = some a → ρ'.at_[m]? = some a) (hs : ∀ a, a ∈ ρ'.at_ ∨ a ∈ ρ'.off → a ∈ ρ.at_ ∨ a ∈ ρ.off) : ∀ {ws : List W} {vs : List V}, bdL n ws = true → RepL Γ ρ H ws vs → RepL Γ ρ' H ws vs
  | [], _, _, h => h
  | w :: ws, _, n, h => by
    obtain ⟨v, r, e, a, b⟩ := h
    simp [bdL] at n
    exact ⟨v, r, e, RepV.cut hp hs n.1 a, RepL.cut hp hs n.2 b⟩
end

/-! attributes -/
def RepF (Γ : Gm) (ρ : Pl) (H : Hp) (fs : List (String × W)) (gs : List (Str × V)) : Prop := gs.map (·.1) = fs.map (fun p => Str.ofString p.1) ∧ RepL Γ ρ H (fs.map (·.2)) (gs.map (·.2))
def CellRep (Γ : Gm) (ρ : Pl) (H : Hp) : Cell → Addr → Prop
  | .lst ws, a => ∃ vs, H a = some (.lst vs) ∧ RepL Γ ρ H ws vs
  | .dict _, _ => False
  | .obj c fs, a => ∃ C dx gs, Γ.cl c = some (.ref C) ∧ H a = some (.ins C dx gs) ∧ RepF Γ ρ H fs gs
structure RelS (Γ : Gm) (ρ : Pl) (H : Hp) (st : Store) : Prop where
  len : ρ.at_.length = st.length
  nd : ρ.at_.Nodup
  at_ : ∀ (n : Nat) (c : Cell) (a : Addr), st[n]? = some c → ρ.at_[n]? = some a → CellRep Γ ρ H c a
  offs : ∀ a, a ∈ ρ.off → (∃ o, H a = some o) ∧ a ∉ ρ.at_
structure RelE (Γ : Gm) (ρ : Pl) (H : Hp) (env : Env) (σ : L2.St) : Prop where
  len : env.length = σ.length
  at_ : ∀ (i : Nat) (w : W), env[i]? = some (some w) → ∃ v, σ[i]? = some (some v) ∧ RepV Γ ρ H w v
theorem RelE.ext0 {env : Env} {σ : L2.St} (x : Ext0 Γ ρ H ρ' H') (h : RelE Γ ρ H env σ) : RelE Γ ρ' H' env σ :=
  ⟨h.len, fun i w e => let ⟨v, e1, r⟩ := h.at_ i w e; ⟨v, e1, r.ext0 x⟩⟩
theorem RelE.ext {env : Env} {σ : L2.St} (x : Ext Γ ρ H ρ' H') (h : RelE Γ ρ H env σ) : RelE Γ ρ' H' env σ := h.ext0 x.zero
theorem RelE.set {env : Env} {σ : L2.St} (h : RelE Γ ρ H env σ) (i : Nat) (r : RepV Γ ρ H w v) : RelE Γ ρ H (env.set i (some w)) (σ.set i (some v)) := by
  refine ⟨by simp [h.len], fun j u e => ?_⟩
  by_cases hij : i = j
  · subst hij
    have hi : i < env.length := by
      have := (List.getElem?_eq_some_iff.mp e).1
      simpa using this
    rw [List.getElem?_set_self hi] at e
    cases e
    exact ⟨v, by rw [List.getElem?_set_self (by rw [← h.len]; exact hi)], r⟩
  · rw [List.getElem?_set_ne hij] at e
    obtain ⟨v', e1, r'⟩ := h.at_ j u e
    exact ⟨v', by rw [List.getElem?_set_ne hij]; exact e1, r'⟩
theorem RelS.get {n : Nat} {c : Cell} (h : RelS Γ ρ H st) (e : st[n]? = some c) : ∃ a, ρ.at_[n]? = some a ∧ CellRep Γ ρ H c a := by
  have hn : n < ρ.at_.length := by rw [h.len]; exact (List.getElem?_eq_some_iff.mp e).1
  exact ⟨ρ.at_[n], List.getElem?_eq_getElem hn, h.at_ n c _ e (List.getElem?_eq_getElem hn)⟩
theorem RelS.there (h : RelS Γ ρ H st) (ha : a ∈ ρ.at_) : ∃ o, H a = some o ∧ Mut (some o) := by
  obtain ⟨n, hn⟩ := List.getElem?_of_mem ha
  have hl : n < st.length := by rw [← h.len]; exact (List.getElem?_eq_some_iff.mp hn).1
  have q := h.at_ n st[n] a (List.getElem?_eq_getElem hl) hn
  cases e : st[n] with
  | lst ws => rw [e] at q; obtain ⟨vs, q, _⟩ := q; exact ⟨_, q, trivial⟩
  | dict kvs => rw [e] at q; exact q.elim
  | obj c fs => rw [e] at q; obtain ⟨C, dx, gs, _, q, _⟩ := q; exact ⟨_, q, trivial⟩
theorem RelS.new_ni (h : RelS Γ ρ H st) (hp : H p = none) : p ∉ ρ.at_ := fun m => by
  obtain ⟨o, e, _⟩ := h.there m
  rw [hp] at e; cases e
theorem CellRep.ext {c : Cell} (x : Ext0 Γ ρ H ρ' H') (he : H' a = H a) (h : CellRep Γ ρ H c a) : CellRep Γ ρ' H' c a := by
  cases c with
  | lst ws => obtain ⟨vs, e, r⟩ := h; exact ⟨vs, by rw [he]; exact e, r.ext0 x⟩
  | dict kvs => exact h.elim
  | obj c fs => obtain ⟨C, dx, gs, e1, e2, e3, e4⟩ := h; exact ⟨C, dx, gs, e1, by rw [he]; exact e2, e3, e4.ext0 x⟩
theorem SqT.upd_new {o : HO} (hp : H p = none) (h : SqT Γ.K H a vs) : SqT Γ.K (upd H p o) a vs := by
  rcases h with (h | ⟨u, h⟩) | h
  · exact .inl (.inl (by rw [upd_ne (ne_of_none h hp)]; exact h))
  · exact .inl (.inr ⟨u, by rw [upd_ne (ne_of_none h hp)]; exact h⟩)
  · exact .inr h
theorem SqT.upd_mut {o u : HO} (hp : H p = some u) (hm : Mut (some u)) (h : SqT Γ.K H a vs) : SqT Γ.K (upd H p o) a vs := by
  rcases h with (h | ⟨u', h⟩) | h
  · exact .inl (.inl (by rw [upd_ne (ne_of h hp (by rintro rfl; exact hm))]; exact h))
  · exact .inl (.inr ⟨u', by rw [upd_ne (ne_of h hp (by rintro rfl; exact hm))]; exact h⟩)
  · exact .inr h
/-- a new object that the store does not know -/
theorem Ext.free {o : HO} (hp : H p = none) : Ext Γ ρ H ρ (upd H p o) :=
  ⟨fun _ _ h => h, fun _ _ h => SqT.upd_new hp h, fun b u e n => ⟨by rw [upd_ne (ne_of_none e hp)]; exact e, n⟩, rfl⟩
theorem RelS.free {o : HO} (h : RelS Γ ρ H st) (hp : H p = none) : RelS Γ ρ (upd H p o) st :=
  ⟨h.len, h.nd, fun n c b e1 e2 => (h.at_ n c b e1 e2).ext (Ext.free hp).zero (upd_ne fun z => h.new_ni hp (by rw [← z]; exact List.mem_of_getElem? e2)),
   fun b hb => let ⟨⟨u, e⟩, n⟩ := h.offs b hb; ⟨⟨u, by rw [upd_ne (ne_of_none e hp)]; exact e⟩, n⟩⟩
/-- a new list of the store -/
theorem Ext.grow {o : HO} (h : RelS Γ ρ H st) (hp : H p = none) : Ext Γ ρ H (ρ.add p) (upd H p o) :=
  ⟨fun n b e => by show (ρ.at_ ++ [p])[n]? = _; rw [List.getElem?_append_left (List.getElem?_eq_some_iff.mp e).1]; exact e, fun _ _ q => SqT.upd_new hp q,
   fun b u e n => ⟨by rw [upd_ne (ne_of_none e hp)]; exact e, by simp [Pl.add, n, ne_of_none e hp]⟩, rfl⟩
theorem RelS.grow {c : Cell} {o : HO} (h : RelS Γ ρ H st) (hp : H p = none) (hc : CellRep Γ (ρ.add p) (upd H p o) c p) : RelS Γ (ρ.add p) (upd H p o) (st ++ [c]) := by
  have x : Ext Γ ρ H (ρ.add p) (upd H p o) := Ext.grow h hp
  refine ⟨by simp [Pl.add, h.len], ?_, fun n d b e1 e2 => ?_, fun b hb => let ⟨⟨u, e⟩, n⟩ := h.offs b hb; ⟨⟨u, by rw [upd_ne (ne_of_none e hp)]; exact e⟩, by simp [Pl.add, n, ne_of_none e hp]⟩⟩
  · show (ρ.at_ ++ [p]).Nodup
    rw [List.nodup_append]
    exact ⟨h.nd, by simp, fun b hb d hd => by simp at hd; subst hd; rintro rfl; exact h.new_ni hp hb⟩
  · have e2 : (ρ.at_ ++ [p])[n]? = some b := e2
    by_cases hn : n < st.length
    · rw [List.getElem?_append_left hn] at e1
      rw [List.getElem?_append_left (by rw [h.len]; exact hn)] at e2
      exact (h.at_ n d b e1 e2).ext x.zero (upd_ne fun z => h.new_ni hp (by rw [← z]; exact List.mem_of_getElem? e2))
    · have hl := (List.getElem?_eq_some_iff.mp e1).1
      have en : n = st.length := by simp at hl; omega
      subst en
      rw [List.getElem?_append_right (Nat.le_refl _)] at e1
      rw [← h.len, List.getElem?_append_right (Nat.le_refl _)] at e2
      simp at e1 e2
      subst e1; subst e2
      exact hc
/-- a list of the store is changed -/
theorem Ext.write {o u : HO} (h : RelS Γ ρ H st) (hp : p ∈ ρ.at_) (hu : H p = some u) (hm : Mut (some u)) : Ext Γ ρ H ρ (upd H p o) :=
  ⟨fun _ _ e => e, fun _ _ q => SqT.upd_mut hu hm q, fun b u' e n => ⟨by rw [upd_ne fun z => n (by rw [z]; exact hp)]; exact e, n⟩, rfl⟩
theorem RelS.write {n : Nat} {c : Cell} {o u : HO} (h : RelS Γ ρ H st) (hn : ρ.at_[n]? = some p) (hu : H p = some u) (hm : Mut (some u)) (hc : CellRep Γ ρ (upd H p o) c p) : RelS Γ ρ (upd H p o) (st.set n c) := by
  have hp : p ∈ ρ.at_ := List.mem_of_getElem? hn
  refine ⟨by simp [h.len], h.nd, fun m d b e1 e2 => ?_, fun b hb => let ⟨⟨u, e⟩, n⟩ := h.offs b hb; ⟨⟨u, by rw [upd_ne fun z => n (by rw [z]; exact hp)]; exact e⟩, n⟩⟩
  by_cases hmn : n = m
  · subst hmn
    rw [hn] at e2; cases e2
    have hl : n < st.length := by rw [← h.len]; exact (List.getElem?_eq_some_iff.mp hn).1
    rw [List.getElem?_set_self hl] at e1; cases e1
    exact hc
  · rw [List.getElem?_set_ne hmn] at e1
    refine (h.at_ m d b e1 e2).ext (Ext.write h hp hu hm).zero (upd_ne ?_)
    rintro rfl
    exact hmn (nd_ix h.nd hn e2)
/-- a list in the making begins -/
def Pl.hold (ρ : Pl) (p : Addr) : Pl := ⟨ρ.at_, p :: ρ.off⟩
theorem Ext0.hold {o : HO} (hp : H p = none) : Ext0 Γ ρ H (ρ.hold p) (upd H p o) :=
  ⟨fun _ _ h => h, fun _ _ h => SqT.upd_new hp h, fun b u e n m => ⟨by rw [upd_ne (ne_of_none e hp)]; exact e, n, by simp [Pl.hold, m, ne_of_none e hp]⟩⟩
theorem RelS.hold {o : HO} (h : RelS Γ ρ H st) (hp : H p = none) : RelS Γ (ρ.hold p) (upd H p o) st :=
  ⟨h.len, h.nd, fun n c b e1 e2 => (h.at_ n c b e1 e2).ext (Ext0.hold hp) (upd_ne fun z => h.new_ni hp (by rw [← z]; exact List.mem_of_getElem? e2)),
   fun b hb => by
    rcases List.mem_cons.mp hb with rfl | hb
    · exact ⟨⟨o, upd_same⟩, h.new_ni hp⟩
    · obtain ⟨⟨u, e⟩, n⟩ := h.offs b hb
      exact ⟨⟨u, by rw [upd_ne (ne_of_none e hp)]; exact e⟩, n⟩⟩
/-- .. goes on -/
theorem Ext0.making {o u : HO} (hp : p ∈ ρ.off) (hu : H p = some u) (hm : Mut (some u)) : Ext0 Γ ρ H ρ (upd H p o) :=
  ⟨fun _ _ h => h, fun _ _ h => SqT.upd_mut hu hm h, fun b u e n m => ⟨by rw [upd_ne fun z => m (by rw [z]; exact hp)]; exact e, n, m⟩⟩
theorem RelS.making {o u : HO} (h : RelS Γ ρ H st) (hp : p ∈ ρ.off) (hu : H p = some u) (hm : Mut (some u)) : RelS Γ ρ (upd H p o) st :=
  ⟨h.len, h.nd, fun n c b e1 e2 => (h.at_ n c b e1 e2).ext (Ext0.making hp hu hm) (upd_ne fun z => (h.offs p hp).2 (by rw [← z]; exact List.mem_of_getElem? e2)),
   fun b hb => by
    obtain ⟨⟨u', e⟩, n⟩ := h.offs b hb
    by_cases z : b = p
    · exact ⟨⟨o, by rw [z]; exact upd_same⟩, n⟩
    · exact ⟨⟨u', by rw [upd_ne z]; exact e⟩, n⟩⟩
theorem CellRep.cut {c : Cell} {n : Nat} (hp : ∀ (m : Nat) a, m < n → ρ.at_[m]? = some a → ρ'.at_[m]? = some a) (hs : ∀ a, a ∈ ρ'.at_ ∨ a ∈ ρ'.off → a ∈ ρ.at_ ∨ a ∈ ρ.off) (hb : c.bd n = true) (h : CellRep Γ ρ H c a) : CellRep Γ ρ' H c a := by
  cases c with
  | lst ws => obtain ⟨vs, e, r⟩ := h; exact ⟨vs, e, r.cut hp hs (by simpa [Cell.bd] using hb)⟩
  | dict kvs => exact h.elim
  | obj c fs => obtain ⟨C, dx, gs, e1, e2, e3, e4⟩ := h; exact ⟨C, dx, gs, e1, e2, e3, e4.cut hp hs (by simpa [Cell.bd] using hb)⟩
theorem CellRep.bd {c : Cell} (h : CellRep Γ ρ H c a) : c.bd ρ.at_.length = true := by
  cases c with
  | lst ws => obtain ⟨vs, e, r⟩ := h; simpa [Cell.bd] using r.bd
  | dict kvs => exact h.elim
  | obj c fs => obtain ⟨C, dx, gs, e1, e2, e3, e4⟩ := h; simpa [Cell.bd] using e4.bd
/-- .. is done: the store without it -/
theorem RelS.done {off : List Addr} (h : RelS Γ ρ H st) (ho : ρ.off = p :: off) : RelS Γ ⟨ρ.at_, off⟩ H st := by
  refine ⟨h.len, h.nd, fun n c b e1 e2 => ?_, fun b hb => h.offs b (by rw [ho]; exact List.mem_cons_of_mem _ hb)⟩
  have q : CellRep Γ ρ H c b := h.at_ n c b e1 e2
  refine CellRep.cut (ρ := ρ) (n := ρ.at_.length) (fun _ _ _ q => q) (fun a q => ?_) q.bd q
  rw [ho]
  rcases q with q | q
  · exact .inl q
  · exact .inr (List.mem_cons_of_mem _ q)
/-- .. and with it -/
theorem RelS.doneAdd {off : List Addr} (h : RelS Γ ρ H st) (ho : ρ.off = p :: off) (hn : p ∉ off) (hd : H p = some (.lst vs)) (r : RepL Γ ρ H ws vs) : RelS Γ ⟨ρ.at_ ++ [p], off⟩ H (st ++ [.lst ws]) := by
  have hs : ∀ a, a ∈ (⟨ρ.at_ ++ [p], off⟩ : Pl).at_ ∨ a ∈ (⟨ρ.at_ ++ [p], off⟩ : Pl).off → a ∈ ρ.at_ ∨ a ∈ ρ.off := fun a q => by
    rw [ho]
    rcases q with q | q
    · rcases List.mem_append.mp q with q | q
      · exact .inl q
      · exact .inr (by simp at q; simp [q])
    · exact .inr (List.mem_cons_of_mem _ q)
  have hp : ∀ (m : Nat) a, m < ρ.at_.length → ρ.at_[m]? = some a → (⟨ρ.at_ ++ [p], off⟩ : Pl).at_[m]? = some a := fun m a l q => by
    show (ρ.at_ ++ [p])[m]? = _
    rw [List.getElem?_append_left l]
    exact q
  have np : p ∉ ρ.at_ := (h.offs p (by rw [ho]; simp)).2
  refine ⟨by simp [h.len], ?_, fun n d b e1 e2 => ?_, fun b hb => ?_⟩
  · show (ρ.at_ ++ [p]).Nodup
    rw [List.nodup_append]
    exact ⟨h.nd, by simp, fun b hb d hd => by simp at hd; subst hd; rintro rfl; exact np hb⟩
  · have e2 : (ρ.at_ ++ [p])[n]? = some b := e2
    by_cases hl : n < st.length
    · rw [List.getElem?_append_left hl] at e1
      rw [List.getElem?_append_left (by rw [h.len]; exact hl)] at e2
      exact (h.at_ n d b e1 e2).cut hp hs (h.at_ n d b e1 e2).bd
    · have hl2 := (List.getElem?_eq_some_iff.mp e1).1
      have en : n = st.length := by simp at hl2; omega
      subst en
      rw [List.getElem?_append_right (Nat.le_refl _)] at e1
      rw [← h.len, List.getElem?_append_right (Nat.le_refl _)] at e2
      simp at e1 e2
      subst e1; subst e2
      exact ⟨vs, hd, r.cut hp hs r.bd⟩
  · obtain ⟨q, n⟩ := h.offs b (by rw [ho]; exact List.mem_cons_of_mem _ hb)
    refine ⟨q, ?_⟩
    show b ∉ ρ.at_ ++ [p]
    simp [n]
    rintro rfl
    exact hn hb
end
end M

-- Sound
set_option Elab.async false
set_option autoImplicit false
set_option linter.all false
set_option maxRecDepth 100000
namespace M
open PySem L2

section
variable {Γ : Gm} {Z : WX} {σ : L2.St} {ρ ρ' ρ₁ ρ₂ : Pl} {H H' H₁ H₂ : Hp} {st st' s₁ : Store} {w w' : W} {ws ws' : List W} {v v' : V} {vs vs' : List V} {a p : Addr} {α β γ δ : Type}

def RepX (Γ : Gm) (ρ : Pl) (H : Hp) (x : Ex) (cls : Value) (d : Option Addr) : Prop := Γ.cl x.c = some cls ∧ match x.d with
  | none => d = none
  | some fs => ∃ da gs, d = some da ∧ H da = some (.xd gs) ∧ RepF Γ ρ H fs gs
/-- what a run's end asks of what is wanted -/
def Post (Γ : Gm) (rep : Pl → Hp → α → β → Prop) (Z : WX) (σ : L2.St) (ρ : Pl) (H : Hp) (Q : β → Hp → Prop) : R α → Prop
  | .ok w st' => ∀ v ρ' H', RelS Γ ρ' H' st' → Ext Γ ρ H ρ' H' → rep ρ' H' w v → Q v H'
  | .exc x st' => ∀ ρ' H' cls d, RelS Γ ρ' H' st' → Ext Γ ρ H ρ' H' → RepX Γ ρ' H' x cls d → Z cls d σ H'
  | .stuck => False
/-- a new list at a: the store without it, and with it -/
structure Fresh (Γ : Gm) (ρ : Pl) (H : Hp) (ρ' : Pl) (H' : Hp) (st' : Store) (ws : List W) (a : Addr) (vs : List V) : Prop where
  new : H a = none
  ob : H' a = some (.lst vs)
  na : a ∉ ρ'.at_
  no : a ∉ ρ'.off
  rel : RelS Γ ρ' H' st'
  add : RelS Γ (ρ'.add a) H' (st' ++ [.lst ws])
  x : Ext Γ ρ H ρ' H'
  rep : RepL Γ ρ' H' ws vs
/-- of a new list -/
def PostL (Γ : Gm) (Z : WX) (σ : L2.St) (ρ : Pl) (H : Hp) (Q : VK) : R (List W) → Prop
  | .ok ws st' => ∀ a vs ρ' H', Fresh Γ ρ H ρ' H' st' ws a vs → Q (.ref a) H'
  | .exc x st' => ∀ ρ' H' cls d, RelS Γ ρ' H' st' → Ext Γ ρ H ρ' H' → RepX Γ ρ' H' x cls d → Z cls d σ H'
  | .stuck => False
def PostS (Γ : Gm) (Z : WX) (D : Ends) (ρ : Pl) (H : Hp) : RS → Prop
  | .nx env st' => ∀ σ' ρ' H', RelS Γ ρ' H' st' → Ext Γ ρ H ρ' H' → RelE Γ ρ' H' env σ' → D.nx σ' H'
  | .ret w st' => ∀ v ρ' H', RelS Γ ρ' H' st' → Ext Γ ρ H ρ' H' → RepV Γ ρ' H' w v → D.rt v H'
  | .brk env st' => ∀ σ' ρ' H', RelS Γ ρ' H' st' → Ext Γ ρ H ρ' H' → RelE Γ ρ' H' env σ' → D.bk σ' H'
  | .cnt env st' => ∀ σ' ρ' H', RelS Γ ρ' H' st' → Ext Γ ρ H ρ' H' → RelE Γ ρ' H' env σ' → D.ct σ' H'
  | .exc x env st' => ∀ σ' ρ' H' cls d, RelS Γ ρ' H' st' → Ext Γ ρ H ρ' H' → RelE Γ ρ' H' env σ' → RepX Γ ρ' H' x cls d → Z cls d σ' H'
  | .stuck => False

def rd (Γ : Gm) (Z : WX) (ε : IE) : TE := fun σ H Q => ∃ ρ env st, RelS Γ ρ H st ∧ RelE Γ ρ H env σ ∧ Post Γ (RepV Γ) Z σ ρ H Q (ε env st)
def rdT (Γ : Gm) (Z : WX) (ε : IT) : TT := fun σ H Q => ∃ ρ env st, RelS Γ ρ H st ∧ RelE Γ ρ H env σ ∧ Post Γ (fun _ _ b c => b = c) Z σ ρ H Q (ε env st)
def rdA (Γ : Gm) (Z : WX) (ε : IL) : TA := fun σ H Q => ∃ ρ env st, RelS Γ ρ H st ∧ RelE Γ ρ H env σ ∧ Post Γ (RepL Γ) Z σ ρ H Q (ε env st)
def rdL (Γ : Gm) (Z : WX) (ε : IL) : TE := fun σ H Q => ∃ ρ env st, RelS Γ ρ H st ∧ RelE Γ ρ H env σ ∧ PostL Γ Z σ ρ H Q (ε env st)
def rdS (Γ : Gm) (Z : WX) (ς : IS) : TS := fun D σ H => ∃ ρ env st, RelS Γ ρ H st ∧ RelE Γ ρ H env σ ∧ PostS Γ Z D ρ H (ς env st)

theorem Fresh.last {ρ' : Pl} (f : Fresh Γ ρ H ρ' H' st' ws a vs) : (ρ'.add a).at_[st'.length]? = some a := by
  show (ρ'.at_ ++ [a])[st'.length]? = some a
  rw [List.getElem?_append_right (Nat.le_of_eq f.rel.len), f.rel.len]
  simp
theorem Fresh.xadd {ρ' : Pl} (f : Fresh Γ ρ H ρ' H' st' ws a vs) : Ext Γ ρ H (ρ'.add a) H' :=
  ⟨fun n b e => (by
    show (ρ'.at_ ++ [a])[n]? = _
    have q := f.x.pre n b e
    rw [List.getElem?_append_left (List.getElem?_eq_some_iff.mp q).1]
    exact q), f.x.tup, fun b o e n => (by
    obtain ⟨h1, h2⟩ := f.x.frm b o e n
    refine ⟨h1, ?_⟩
    show b ∉ ρ'.at_ ++ [a]
    simp only [List.mem_append, List.mem_singleton, not_or]
    exact ⟨h2, ne_of_none e f.new⟩), f.x.off⟩
theorem RelS.new_no {ρ : Pl} (h : RelS Γ ρ H st) (hp : H p = none) : p ∉ ρ.off := fun m => by
  obtain ⟨⟨o, e⟩, _⟩ := h.offs p m
  rw [hp] at e; cases e
theorem Fresh.of {ρ : Pl} (h : RelS Γ ρ H st) (hp : H p = none) (r : RepL Γ ρ H ws vs) : Fresh Γ ρ H ρ (upd H p (.lst vs)) st ws p vs :=
  ⟨hp, upd_same, h.new_ni hp, h.new_no hp, h.free hp, h.grow hp ⟨vs, upd_same, r.ext (Ext.grow h hp)⟩, .free hp, r.ext (.free hp)⟩
theorem Post.ext {rep : Pl → Hp → α → β → Prop} {Q : β → Hp → Prop} {r : R α} (x : Ext Γ ρ H ρ₁ H₁) (h : Post Γ rep Z σ ρ H Q r) : Post Γ rep Z σ ρ₁ H₁ Q r := by
  cases r with
  | ok w s => exact fun v ρ' H' a b c => h v ρ' H' a (x.trans b) c
  | exc e s => exact fun ρ' H' c d a b q => h ρ' H' c d a (x.trans b) q
  | stuck => exact h
theorem Post.mono {rep : Pl → Hp → α → β → Prop} {Q Q' : β → Hp → Prop} {r : R α} (h : Post Γ rep Z σ ρ H Q r) (k : ∀ v H', Q v H' → Q' v H') : Post Γ rep Z σ ρ H Q' r := by
  cases r with
  | ok w s => exact fun v ρ' H' a b c => k _ _ (h v ρ' H' a b c)
  | exc e s => exact h
  | stuck => exact h
theorem PostS.ext {D : Ends} {r : RS} (x : Ext Γ ρ H ρ₁ H₁) (h : PostS Γ Z D ρ H r) : PostS Γ Z D ρ₁ H₁ r := by
  cases r with
  | nx e s => exact fun v ρ' H' a b c => h v ρ' H' a (x.trans b) c
  | ret e s => exact fun v ρ' H' a b c => h v ρ' H' a (x.trans b) c
  | brk e s => exact fun v ρ' H' a b c => h v ρ' H' a (x.trans b) c
  | cnt e s => exact fun v ρ' H' a b c => h v ρ' H' a (x.trans b) c
  | exc e n s => exact fun σ' ρ' H' c d a b q z => h σ' ρ' H' c d a (x.trans b) q z
  | stuck => exact h
/-- nothing new but what the store's growth or a new object brings -/
theorem Ext.none_back {ρ ρ' : Pl} (hS : RelS Γ ρ H st) (x : Ext Γ ρ H ρ' H') (hS' : RelS Γ ρ' H' st') (h : H' a = none) : H a = none := by
  cases e : H a with
  | none => rfl
  | some o =>
    by_cases m : a ∈ ρ.at_
    · obtain ⟨n, hn⟩ := List.getElem?_of_mem m
      obtain ⟨u, hu, _⟩ := hS'.there (List.mem_of_getElem? (x.pre n a hn))
      rw [h] at hu; cases hu
    · rw [(x.frm a o e m).1] at h; cases h
theorem PostL.ext {Q : VK} {r : R (List W)} (hS : RelS Γ ρ H st) (x : Ext Γ ρ H ρ₁ H₁) (hS₁ : RelS Γ ρ₁ H₁ s₁) (h : PostL Γ Z σ ρ H Q r) : PostL Γ Z σ ρ₁ H₁ Q r := by
  cases r with
  | ok w s => exact fun a vs ρ' H' f => h a vs ρ' H' ⟨x.none_back hS hS₁ f.new, f.ob, f.na, f.no, f.rel, f.add, x.trans f.x, f.rep⟩
  | exc e s => exact fun ρ' H' c d a b q => h ρ' H' c d a (x.trans b) q
  | stuck => exact h
/-- a run, then another one -/
theorem Post.bind {rep : Pl → Hp → α → β → Prop} {rep' : Pl → Hp → γ → δ → Prop} {Q : δ → Hp → Prop} {r : R α} {f : α → Store → R γ} (h : Post Γ rep' Z σ ρ H Q (r.bind f)) :
    Post Γ rep Z σ ρ H (fun v H1 => ∃ w s1 ρ1, r = .ok w s1 ∧ RelS Γ ρ1 H1 s1 ∧ Ext Γ ρ H ρ1 H1 ∧ rep ρ1 H1 w v ∧ Post Γ rep' Z σ ρ1 H1 Q (f w s1)) r := by
  cases r with
  | ok w s => exact fun v ρ' H' a b c => ⟨w, s, ρ', rfl, a, b, c, Post.ext b h⟩
  | exc e s => exact h
  | stuck => exact h
theorem Post.bindL {rep : Pl → Hp → α → β → Prop} {Q : VK} {r : R α} {f : α → Store → R (List W)} (hS : RelS Γ ρ H st) (h : PostL Γ Z σ ρ H Q (r.bind f)) :
    Post Γ rep Z σ ρ H (fun v H1 => ∃ w s1 ρ1, r = .ok w s1 ∧ RelS Γ ρ1 H1 s1 ∧ Ext Γ ρ H ρ1 H1 ∧ rep ρ1 H1 w v ∧ PostL Γ Z σ ρ1 H1 Q (f w s1)) r := by
  cases r with
  | ok w s => exact fun v ρ' H' a b c => ⟨w, s, ρ', rfl, a, b, c, PostL.ext hS b a h⟩
  | exc e s => exact h
  | stuck => exact h
theorem PostL.bind {rep' : Pl → Hp → γ → δ → Prop} {Q : δ → Hp → Prop} {r : R (List W)} {f : List W → Store → R γ} (h : Post Γ rep' Z σ ρ H Q (r.bind f)) :
    PostL Γ Z σ ρ H (fun v H1 => ∃ ws s1 ρ1 a vs, r = .ok ws s1 ∧ v = .ref a ∧ Fresh Γ ρ H ρ1 H1 s1 ws a vs ∧ Post Γ rep' Z σ ρ1 H1 Q (f ws s1)) r := by
  cases r with
  | ok w s => exact fun a vs ρ' H' f => ⟨w, s, ρ', a, vs, rfl, rfl, f, Post.ext f.x h⟩
  | exc e s => exact h
  | stuck => exact h
end

/-! ### a reading that asks more -/
section
variable {X : Cx} {e : Expr} {es : List Expr} {s : Stmt} {ss : List Stmt}
theorem PE.imp {t t' : TE} (h : PE X e t) (k : ∀ σ H Q, t' σ H Q → t σ H Q) : PE X e t' := ⟨fun pins s σ H Q I q => h.run pins s σ H Q I (k σ H Q q)⟩
theorem PT.imp {t t' : TT} (h : PT X e t) (k : ∀ σ H Q, t' σ H Q → t σ H Q) : PT X e t' := ⟨fun pins s σ H Q I q => h.run pins s σ H Q I (k σ H Q q)⟩
theorem PW.imp {t t' : TT} (h : PW X e t) (k : ∀ σ H Q, t' σ H Q → t σ H Q) : PW X e t' := ⟨fun wh pins s σ H Q I q => h.run wh pins s σ H Q I (k σ H Q q)⟩
theorem PA.imp {t t' : TA} (h : PA X es t) (k : ∀ σ H Q, t' σ H Q → t σ H Q) : PA X es t' := ⟨fun pos pins s σ H Q I q => h.run pos pins s σ H Q I (k σ H Q q)⟩
theorem PS.imp {t t' : TS} (h : PS X s t) (k : ∀ D σ H, t' D σ H → t D σ H) : PS X s t' := ⟨fun pins st σ H D I q => h.run pins st σ H D I (k D σ H q)⟩
theorem PSs.imp {t t' : TS} (h : PSs X ss t) (k : ∀ D σ H, t' D σ H → t D σ H) : PSs X ss t' := ⟨fun pins st σ H D I q => h.run pins st σ H D I (k D σ H q)⟩
theorem PG.imp {t t' : TG} (h : PG X e t) (k : ∀ v σ H Q, t' v σ H Q → t v σ H Q) : PG X e t' := ⟨fun pins st σ H v u Q I r q => h.run pins st σ H v u Q I r (k v σ H Q q)⟩
theorem PGs.imp {t t' : TGs} (h : PGs X es t) (k : ∀ v σ H Q, t' v σ H Q → t v σ H Q) : PGs X es t' := ⟨fun pins st σ H v u Q I r q => h.run pins st σ H v u Q I r (k v σ H Q q)⟩
end

/-! ### expressions -/
section
variable {Γ : Gm} {Z : WX} {X : Cx} {a b c : Expr} {es : List Expr} {pos : Pos} {α β : IE} {τ τ' : IT}
theorem i_var (i : Nat) {x : Str} (hN : X.N[i]? = some x := by rfl) (hv : Vis X.env.scope x := by first | exact Or.inl rfl | exact Or.inr (Or.inl rfl) | exact Or.inr (Or.inr rfl)) (hd : (x == ("__debug__" : Str)) = false := by decide)
    (hcd : (x == ("__classdict__" : Str)) = false := by decide) : PE X (.Name x pos) (rd Γ Z (eVar i)) := by
  refine PE.imp (pe_var hN hv hd hcd) ?_
  rintro σ H Q ⟨ρ, env, st, hS, hE, h⟩
  unfold eVar at h
  split at h
  · rename_i w e
    obtain ⟨v, e1, r⟩ := hE.at_ i w e
    exact ⟨v, e1, h v ρ H hS .refl r⟩
  · exact h.elim
theorem rd_c {w : W} {v : V} (r : ∀ ρ H, RepV Γ ρ H w v) {σ : L2.St} {H : Hp} {Q : VK} (h : rd Γ Z (eC w) σ H Q) : tC v σ H Q := by
  obtain ⟨ρ, env, st, hS, hE, h⟩ := h
  exact h v ρ H hS .refl (r ρ H)
theorem i_int {i j} : PE X (.Constant (.int i) j pos) (rd Γ Z (eC (.int i))) := PE.imp pe_int fun _ _ _ h => rd_c (w := .int i) (v := .int i) (fun _ _ => rfl) h
theorem i_bl {b j} : PE X (.Constant (.bool b) j pos) (rd Γ Z (eC (.bl b))) := PE.imp pe_bl fun _ _ _ h => rd_c (w := .bl b) (v := .bl b) (fun _ _ => rfl) h
theorem i_non {j} : PE X (.Constant .none j pos) (rd Γ Z (eC .non)) := PE.imp pe_non fun _ _ _ h => rd_c (w := .non) (v := .non) (fun _ _ => rfl) h
theorem i_str {x j} {s : List Nat} (hs : x.cps.toList = s := by rfl) : PE X (.Constant (.str x) j pos) (rd Γ Z (eC (.str s))) := PE.imp pe_str fun _ _ _ h => rd_c (w := .str s) (v := .str x) (fun _ _ => ⟨x, rfl, hs⟩) h

/-- a two-place operation by values -/
def SemOp (Γ : Gm) (r : R2) (f : W → W → Store → R W) : Prop := ∀ (Z : WX) (σ : L2.St) (ρ : Pl) (H : Hp) (st : Store) (x y : W) (xv yv : V) (Q : VK), RelS Γ ρ H st → RepV Γ ρ H x xv → RepV Γ ρ H y yv → Post Γ (RepV Γ) Z σ ρ H Q (f x y st) → r xv yv H Q
theorem rd_op {r : R2} {f : W → W → Store → R W} (hf : SemOp Γ r f) {σ : L2.St} {H : Hp} {Q : VK} (h : rd Γ Z (eOp f α β) σ H Q) : tOp r (rd Γ Z α) (rd Γ Z β) σ H Q := by
  obtain ⟨ρ, env, st, hS, hE, h⟩ := h
  refine ⟨ρ, env, st, hS, hE, (Post.bind h).mono ?_⟩
  rintro v H1 ⟨w, s1, ρ1, e1, hS1, x1, r1, h1⟩
  refine ⟨ρ1, env, s1, hS1, hE.ext x1, (Post.bind h1).mono ?_⟩
  rintro u H2 ⟨w2, s2, ρ2, e2, hS2, x2, r2, h2⟩
  exact hf Z σ ρ2 H2 s2 w w2 v u Q hS2 (r1.ext x2) r2 h2
theorem i_op {op : Operator} {r : R2} {f : W → W → Store → R W} (ho : OpR X (binaryOp op) r) (hf : SemOp Γ r f) (ha : PE X a (rd Γ Z α)) (hb : PE X b (rd Γ Z β)) : PE X (.BinOp a op b pos) (rd Γ Z (eOp f α β)) :=
  PE.imp (pe_op ho ha hb) fun _ _ _ h => rd_op hf h
theorem i_cmp {op : CmpOp} {r : R2} {f : W → W → Store → R W} (ho : OpR X (compareOp op) r) (hf : SemOp Γ r f) (ha : PE X a (rd Γ Z α)) (hb : PE X b (rd Γ Z β)) (hm : behindInMarks op b = false) : PE X (.Compare a [op] [b] pos) (rd Γ Z (eOp f α β)) :=
  PE.imp (pe_cmpR ho ha hb hm) fun _ _ _ h => rd_op hf h
def SemUn (Γ : Gm) (r : V → Hp → VK → Prop) (f : W → Store → R W) : Prop := ∀ (Z : WX) (σ : L2.St) (ρ : Pl) (H : Hp) (st : Store) (x : W) (xv : V) (Q : VK), RelS Γ ρ H st → RepV Γ ρ H x xv → Post Γ (RepV Γ) Z σ ρ H Q (f x st) → r xv H Q
theorem i_un {op : UnaryOp} {r : V → Hp → VK → Prop} {f : W → Store → R W} (ho : UnR X (unaryOp op) r) (hf : SemUn Γ r f) (ha : PE X a (rd Γ Z α)) : PE X (.UnaryOp op a pos) (rd Γ Z (eUn f α)) := by
  refine PE.imp (pe_un ho ha) ?_
  rintro σ H Q ⟨ρ, env, st, hS, hE, h⟩
  refine ⟨ρ, env, st, hS, hE, (Post.bind h).mono ?_⟩
  rintro v H1 ⟨w, s1, ρ1, e1, hS1, x1, r1, h1⟩
  exact hf Z σ ρ1 H1 s1 w v Q hS1 r1 h1

/-! a test whose value is True or False -/
theorem rd_test {σ : L2.St} {H : Hp} {Q : Bool → Hp → Prop} (h : rdT Γ Z (tVal α) σ H Q) : rd Γ Z α σ H fun x H' => ∃ k, x = .bl k ∧ Q k H' := by
  obtain ⟨ρ, env, st, hS, hE, h⟩ := h
  refine ⟨ρ, env, st, hS, hE, (Post.bind h).mono ?_⟩
  rintro v H1 ⟨w, s1, ρ1, e1, hS1, x1, r1, h1⟩
  cases w with
  | bl c => cases r1; exact ⟨c, rfl, h1 c ρ1 H1 hS1 .refl rfl⟩
  | _ => exact h1.elim
theorem j_val (ha : PE X a (rd Γ Z α)) (he : ∀ whole, isTrue a X.env whole = (do let v ← whole; standAt a.pos; holding [v] (truthy v)) := by intro _; rfl) : PT X a (rdT Γ Z (tVal α)) :=
  PT.imp (pt_val ha he) fun _ _ _ h => rd_test h
theorem j_cmp {op : CmpOp} {r : R2} {f : W → W → Store → R W} (ho : OpR X (compareOp op) r) (hf : SemOp Γ r f) (ha : PE X a (rd Γ Z α)) (hb : PE X b (rd Γ Z β)) (hm : behindInMarks op b = false) : PT X (.Compare a [op] [b] pos) (rdT Γ Z (tVal (eOp f α β))) := by
  refine PT.imp (pt_cmpR ho ha hb hm) ?_
  intro σ H Q h
  obtain ⟨ρ, env, st, hS, hE, h⟩ := rd_test h
  exact rd_op (Z := Z) hf ⟨ρ, env, st, hS, hE, h⟩
theorem rd_and {σ : L2.St} {H : Hp} {Q : Bool → Hp → Prop} (h : rdT Γ Z (M.tAnd τ τ') σ H Q) : L2.tAnd (rdT Γ Z τ) (rdT Γ Z τ') σ H Q := by
  obtain ⟨ρ, env, st, hS, hE, h⟩ := h
  refine ⟨ρ, env, st, hS, hE, (Post.bind h).mono ?_⟩
  rintro v H1 ⟨w, s1, ρ1, e1, hS1, x1, r1, h1⟩
  subst r1
  cases w with
  | true => exact ⟨ρ1, env, s1, hS1, hE.ext x1, h1⟩
  | false => exact h1 false ρ1 H1 hS1 .refl rfl
theorem rd_or {σ : L2.St} {H : Hp} {Q : Bool → Hp → Prop} (h : rdT Γ Z (M.tOr τ τ') σ H Q) : L2.tOr (rdT Γ Z τ) (rdT Γ Z τ') σ H Q := by
  obtain ⟨ρ, env, st, hS, hE, h⟩ := h
  refine ⟨ρ, env, st, hS, hE, (Post.bind h).mono ?_⟩
  rintro v H1 ⟨w, s1, ρ1, e1, hS1, x1, r1, h1⟩
  subst r1
  cases w with
  | true => exact h1 true ρ1 H1 hS1 .refl rfl
  | false => exact ⟨ρ1, env, s1, hS1, hE.ext x1, h1⟩
theorem jw_and {rest : List Expr} (ha : PT X a (rdT Γ Z τ)) (hb : PW X (.BoolOp .And (b :: rest) pos) (rdT Γ Z τ')) : PW X (.BoolOp .And (a :: b :: rest) pos) (rdT Γ Z (M.tAnd τ τ')) := PW.imp (pw_and ha hb) fun _ _ _ h => rd_and h
theorem jw_or {rest : List Expr} (ha : PT X a (rdT Γ Z τ)) (hb : PW X (.BoolOp .Or (b :: rest) pos) (rdT Γ Z τ')) : PW X (.BoolOp .Or (a :: b :: rest) pos) (rdT Γ Z (M.tOr τ τ')) := PW.imp (pw_or ha hb) fun _ _ _ h => rd_or h
theorem j_not (ha : PT X a (rdT Γ Z τ)) : PT X (.UnaryOp .Not a pos) (rdT Γ Z (M.tNot τ)) := by
  refine PT.imp (pt_not ha) ?_
  rintro σ H Q ⟨ρ, env, st, hS, hE, h⟩
  refine ⟨ρ, env, st, hS, hE, (Post.bind h).mono ?_⟩
  rintro v H1 ⟨w, s1, ρ1, e1, hS1, x1, r1, h1⟩
  subst r1
  exact h1 _ ρ1 H1 hS1 .refl rfl
theorem i_and {rest : List Expr} (ha : PE X a (rd Γ Z α)) (hb : PE X (.BoolOp .And (b :: rest) pos) (rd Γ Z β)) : PE X (.BoolOp .And (a :: b :: rest) pos) (rd Γ Z (eAndV α β)) := by
  refine PE.imp (pe_and ha hb) ?_
  rintro σ H Q ⟨ρ, env, st, hS, hE, h⟩
  refine ⟨ρ, env, st, hS, hE, (Post.bind h).mono ?_⟩
  rintro v H1 ⟨w, s1, ρ1, e1, hS1, x1, r1, h1⟩
  cases w with
  | bl c =>
    cases r1
    cases c with
    | true => exact ⟨true, rfl, ⟨ρ1, env, s1, hS1, hE.ext x1, h1⟩⟩
    | false => exact ⟨false, rfl, h1 _ ρ1 H1 hS1 .refl rfl⟩
  | _ => exact h1.elim
theorem i_or {rest : List Expr} (ha : PE X a (rd Γ Z α)) (hb : PE X (.BoolOp .Or (b :: rest) pos) (rd Γ Z β)) : PE X (.BoolOp .Or (a :: b :: rest) pos) (rd Γ Z (eOrV α β)) := by
  refine PE.imp (pe_or ha hb) ?_
  rintro σ H Q ⟨ρ, env, st, hS, hE, h⟩
  refine ⟨ρ, env, st, hS, hE, (Post.bind h).mono ?_⟩
  rintro v H1 ⟨w, s1, ρ1, e1, hS1, x1, r1, h1⟩
  cases w with
  | bl c =>
    cases r1
    cases c with
    | true => exact ⟨true, rfl, h1 _ ρ1 H1 hS1 .refl rfl⟩
    | false => exact ⟨false, rfl, ⟨ρ1, env, s1, hS1, hE.ext x1, h1⟩⟩
  | _ => exact h1.elim
theorem i_not (ha : PE X a (rd Γ Z α)) : PE X (.UnaryOp .Not a pos) (rd Γ Z (eNotV α)) := by
  refine PE.imp (pe_not ha) ?_
  rintro σ H Q ⟨ρ, env, st, hS, hE, h⟩
  refine ⟨ρ, env, st, hS, hE, (Post.bind h).mono ?_⟩
  rintro v H1 ⟨w, s1, ρ1, e1, hS1, x1, r1, h1⟩
  cases w with
  | bl c => cases r1; exact ⟨c, rfl, h1 _ ρ1 H1 hS1 .refl rfl⟩
  | _ => exact h1.elim
theorem i_ifExp (hc : PT X c (rdT Γ Z τ)) (ha : PE X a (rd Γ Z α)) (hb : PE X b (rd Γ Z β)) : PE X (.IfExp c a b pos) (rd Γ Z (eIf τ α β)) := by
  refine PE.imp (pe_ifExp hc ha hb) ?_
  rintro σ H Q ⟨ρ, env, st, hS, hE, h⟩
  refine ⟨ρ, env, st, hS, hE, (Post.bind h).mono ?_⟩
  rintro v H1 ⟨w, s1, ρ1, e1, hS1, x1, r1, h1⟩
  subst r1
  cases w with
  | true => exact ⟨ρ1, env, s1, hS1, hE.ext x1, h1⟩
  | false => exact ⟨ρ1, env, s1, hS1, hE.ext x1, h1⟩

/-! arguments, displays -/
theorem a_nil : PA X [] (rdA Γ Z (eArgs [])) := PA.imp pa_nil fun σ H Q ⟨ρ, env, st, hS, hE, h⟩ => h [] ρ H hS .refl rfl
theorem a_cons {αs : List IE} (ha : PE X a (rd Γ Z α)) (hr : PA X es (rdA Γ Z (eArgs αs))) (hs : starEach (a :: es) X.env = (false, eval a X.env) :: starEach es X.env := by rfl) : PA X (a :: es) (rdA Γ Z (eArgs (α :: αs))) := by
  refine PA.imp (pa_cons ha hr hs) ?_
  rintro σ H Q ⟨ρ, env, st, hS, hE, h⟩
  refine ⟨ρ, env, st, hS, hE, (Post.bind h).mono ?_⟩
  rintro v H1 ⟨w, s1, ρ1, e1, hS1, x1, r1, h1⟩
  refine ⟨ρ1, env, s1, hS1, hE.ext x1, (Post.bind h1).mono ?_⟩
  rintro u H2 ⟨w2, s2, ρ2, e2, hS2, x2, r2, h2⟩
  exact h2 (v :: u) ρ2 H2 hS2 .refl (.cons (r1.ext x2) r2)
theorem i_tup {αs : List IE} {x1} (h : PA X es (rdA Γ Z (eArgs αs))) (hl : es.length ≤ 1000 := by decide) (hl2 : αs.length = es.length := by rfl) : PE X (.Tuple es x1 pos) (rd Γ Z (eTup αs)) := by
  refine PE.imp (pe_tup h) ?_
  rintro σ H Q ⟨ρ, env, st, hS, hE, h⟩
  refine ⟨ρ, env, st, hS, hE, ?_⟩
  have len : ∀ (αs : List IE) env st ws s, eArgs αs env st = .ok ws s → ws.length = αs.length := by
    intro αs
    induction αs with
    | nil => intro env st ws s e; cases e; rfl
    | cons a r ih =>
      intro env st ws s e
      unfold eArgs at e
      cases h1 : a env st with
      | ok w s1 =>
        rw [h1] at e
        cases h2 : eArgs r env s1 with
        | ok xs s2 => simp [h2] at e; obtain ⟨rfl, _⟩ := e; simp [ih _ _ _ _ h2]
        | exc x s2 => simp [h2] at e
        | stuck => simp [h2] at e
      | exc x s1 => rw [h1] at e; cases e
      | stuck => rw [h1] at e; cases e
  refine (Post.bind h).mono ?_
  rintro v H1 ⟨w, s1, ρ1, e1, hS1, x1, r1, h1⟩
  refine ⟨?_, fun p hp => ?_⟩
  · rw [r1.len, len _ _ _ _ _ e1, hl2]
    exact Nat.le_trans hl (by decide)
  · exact h1 (.ref p) ρ1 _ (hS1.free hp) (.free hp) ⟨p, v, rfl, .of upd_same, r1.ext (.free hp)⟩
/-- a list display -/
def lArgs (αs : List IE) : IL := eArgs αs
theorem l_lst {αs : List IE} (h : PA X es (rdA Γ Z (eArgs αs))) (hl : es.length ≤ 1000 := by decide) (hl2 : αs.length = es.length := by rfl) : PE X (.List es pos) (rdL Γ Z (eArgs αs)) := by
  refine PE.imp (pe_lst h) ?_
  rintro σ H Q ⟨ρ, env, st, hS, hE, h⟩
  refine ⟨ρ, env, st, hS, hE, ?_⟩
  have len : ∀ (αs : List IE) env st ws s, eArgs αs env st = .ok ws s → ws.length = αs.length := by
    intro αs
    induction αs with
    | nil => intro env st ws s e; cases e; rfl
    | cons a r ih =>
      intro env st ws s e
      unfold eArgs at e
      cases h1 : a env st with
      | ok w s1 =>
        rw [h1] at e
        cases h2 : eArgs r env s1 with
        | ok xs s2 => simp [h2] at e; obtain ⟨rfl, _⟩ := e; simp [ih _ _ _ _ h2]
        | exc x s2 => simp [h2] at e
        | stuck => simp [h2] at e
      | exc x s1 => rw [h1] at e; cases e
      | stuck => rw [h1] at e; cases e
  cases e1 : eArgs αs env st with
  | ok ws s1 =>
    rw [e1] at h
    refine fun v ρ1 H1 hS1 x1 r1 => ⟨?_, fun p hp => ?_⟩
    · rw [r1.len, len _ _ _ _ _ e1, hl2]
      exact Nat.le_trans hl (by decide)
    · have f := Fresh.of (ws := ws) hS1 hp r1
      exact h p v ρ1 _ ⟨x1.none_back hS hS1 hp, f.ob, f.na, f.no, f.rel, f.add, x1.trans f.x, f.rep⟩
  | exc x s1 => rw [e1] at h; exact h
  | stuck => rw [e1] at h; exact h
/-- a new list, by value; one that may be changed -/
theorem i_lst {l : IL} (h : PE X a (rdL Γ Z l)) : PE X a (rd Γ Z (eLst l)) := by
  refine PE.imp h ?_
  rintro σ H Q ⟨ρ, env, st, hS, hE, h⟩
  refine ⟨ρ, env, st, hS, hE, ?_⟩
  cases e : l env st with
  | ok ws s =>
    unfold eLst at h; rw [e] at h
    exact fun a vs ρ' H' f => h (.ref a) ρ' H' f.rel f.x ⟨a, vs, rfl, ⟨f.ob, f.na, f.no⟩, f.rep⟩
  | exc x s => unfold eLst at h; rw [e] at h; exact h
  | stuck => unfold eLst at h; rw [e] at h; exact h
theorem i_new {l : IL} (h : PE X a (rdL Γ Z l)) : PE X a (rd Γ Z (eNew l)) := by
  refine PE.imp h ?_
  rintro σ H Q ⟨ρ, env, st, hS, hE, h⟩
  refine ⟨ρ, env, st, hS, hE, ?_⟩
  cases e : l env st with
  | ok ws s =>
    unfold eNew at h; rw [e] at h
    exact fun a vs ρ' H' f => h (.ref a) (ρ'.add a) H' f.add f.xadd ⟨a, rfl, f.last⟩
  | exc x s => unfold eNew at h; rw [e] at h; exact h
  | stuck => unfold eNew at h; rw [e] at h; exact h
end
end M

-- Sound2
set_option Elab.async false
set_option autoImplicit false
set_option linter.all false
set_option maxRecDepth 100000
namespace M
open PySem L2
section
variable {Γ : Gm} {Z : WX} {X : Cx} {a b c e : Expr} {es : List Expr} {s : Stmt} {ss : List Stmt} {pos : Pos} {α β : IE} {τ τ' : IT} {ς ς' : IS}

/-! ### blocks and small statements -/
theorem p_nil : PSs X [] (rdS Γ Z sSkip) := PSs.imp pss_nil fun D σ H ⟨ρ, env, st, hS, hE, h⟩ => h σ ρ H hS .refl hE
theorem rd_seq {D : Ends} {σ : L2.St} {H : Hp} (h : rdS Γ Z (sSeq ς ς') D σ H) : tSeq (rdS Γ Z ς) (rdS Γ Z ς') D σ H := by
  obtain ⟨ρ, env, st, hS, hE, h⟩ := h
  refine ⟨ρ, env, st, hS, hE, ?_⟩
  unfold sSeq at h
  cases e : ς env st with
  | nx e1 s1 => rw [e] at h; exact fun σ' ρ' H' a x b => ⟨ρ', e1, s1, a, b, PostS.ext x h⟩
  | ret w s1 => rw [e] at h; exact h
  | brk e1 s1 => rw [e] at h; exact h
  | cnt e1 s1 => rw [e] at h; exact h
  | exc x e1 s1 => rw [e] at h; exact h
  | stuck => rw [e] at h; exact h
theorem p_cons (h1 : PS X s (rdS Γ Z ς)) (h2 : PSs X ss (rdS Γ Z ς')) : PSs X (s :: ss) (rdS Γ Z (sSeq ς ς')) := PSs.imp (pss_cons h1 h2) fun _ _ _ h => rd_seq h
theorem p_one (h : PS X s (rdS Γ Z ς)) : PSs X [s] (rdS Γ Z ς) := pss_one h
theorem s_pass : PS X (.Pass pos) (rdS Γ Z sSkip) := PS.imp ps_pass fun D σ H ⟨ρ, env, st, hS, hE, h⟩ => h σ ρ H hS .refl hE
theorem s_doc {x j pos'} : PS X (.Expr (.Constant (.str x) j pos) pos') (rdS Γ Z sSkip) := PS.imp ps_doc fun D σ H ⟨ρ, env, st, hS, hE, h⟩ => h σ ρ H hS .refl hE
theorem s_brk : PS X (.Break pos) (rdS Γ Z sBrk) := PS.imp ps_break fun D σ H ⟨ρ, env, st, hS, hE, h⟩ => h σ ρ H hS .refl hE
theorem s_cnt : PS X (.Continue pos) (rdS Γ Z sCnt) := PS.imp ps_continue fun D σ H ⟨ρ, env, st, hS, hE, h⟩ => h σ ρ H hS .refl hE
theorem s_never : PS X s (rdS Γ Z sNever) := PS.imp ps_never fun D σ H ⟨ρ, env, st, hS, hE, h⟩ => h
theorem p_never : PSs X ss (rdS Γ Z sNever) := PSs.imp pss_never fun D σ H ⟨ρ, env, st, hS, hE, h⟩ => h
theorem rd_asg {i : Nat} {D : Ends} {σ : L2.St} {H : Hp} (h : rdS Γ Z (sSet i α) D σ H) : tAsg (rd Γ Z α) (gName i) D σ H := by
  obtain ⟨ρ, env, st, hS, hE, h⟩ := h
  refine ⟨ρ, env, st, hS, hE, ?_⟩
  unfold sSet at h
  cases e : α env st with
  | ok w s => rw [e] at h; exact fun v ρ' H' a x r => h _ ρ' H' a x ((hE.ext x).set i r)
  | exc x s => rw [e] at h; exact fun ρ' H' c d a y r => h σ ρ' H' c d a y (hE.ext y) r
  | stuck => rw [e] at h; exact h
theorem s_set {i : Nat} {x : Str} {pos' : Pos} (hN : X.N.Nodup) (he : PE X e (rd Γ Z α)) (hi : X.N[i]? = some x := by rfl) (hx : Loc X.env.scope x := by first | exact .inl rfl | exact .inr rfl) (hs : swapsWith e (some (.Name x pos')) pos.line X.env = pure false := by rfl)
    (hf : X.fn x = true ∨ X.env.scope.names.lookup x = some .local := by first | exact .inl rfl | exact .inr rfl) : PS X (.Assign [.Name x pos'] e pos) (rdS Γ Z (sSet i α)) :=
  PS.imp (ps_set hN hi hx he hs hf) fun _ _ _ h => rd_asg h
theorem s_expr (he : PE X e (rd Γ Z α)) (hs : swapsWith e none pos.line X.env = pure false := by rfl) : PS X (.Expr e pos) (rdS Γ Z (sDrop α)) := by
  refine PS.imp (ps_expr he hs) ?_
  rintro D σ H ⟨ρ, env, st, hS, hE, h⟩
  refine ⟨ρ, env, st, hS, hE, ?_⟩
  unfold sDrop at h
  cases e : α env st with
  | ok w s => rw [e] at h; exact fun v ρ' H' a x r => h σ ρ' H' a x (hE.ext x)
  | exc x s => rw [e] at h; exact fun ρ' H' c d a y r => h σ ρ' H' c d a y (hE.ext y) r
  | stuck => rw [e] at h; exact h
theorem s_ret (he : PE X e (rd Γ Z α)) : PS X (.Return (some e) pos) (rdS Γ Z (sRet α)) := by
  refine PS.imp (ps_ret he) ?_
  rintro D σ H ⟨ρ, env, st, hS, hE, h⟩
  refine ⟨ρ, env, st, hS, hE, ?_⟩
  unfold sRet at h
  cases e : α env st with
  | ok w s => rw [e] at h; exact fun v ρ' H' a x r => h v ρ' H' a x r
  | exc x s => rw [e] at h; exact fun ρ' H' c d a y r => h σ ρ' H' c d a y (hE.ext y) r
  | stuck => rw [e] at h; exact h
theorem s_retN : PS X (.Return none pos) (rdS Γ Z (sRet (eC .non))) := PS.imp ps_retN fun D σ H ⟨ρ, env, st, hS, hE, h⟩ => h .non ρ H hS .refl rfl
theorem s_if {as bs : List Stmt} (hc : PT X c (rdT Γ Z τ)) (ha : PSs X as (rdS Γ Z ς)) (hb : PSs X bs (rdS Γ Z ς')) : PS X (.If c as bs pos) (rdS Γ Z (sIf τ ς ς')) := by
  refine PS.imp (ps_if hc ha hb) ?_
  rintro D σ H ⟨ρ, env, st, hS, hE, h⟩
  refine ⟨ρ, env, st, hS, hE, ?_⟩
  unfold sIf at h
  cases e : τ env st with
  | ok c s =>
    rw [e] at h
    rintro k ρ' H' a x rfl
    cases c with
    | true => exact ⟨ρ', env, s, a, hE.ext x, PostS.ext x h⟩
    | false => exact ⟨ρ', env, s, a, hE.ext x, PostS.ext x h⟩
  | exc x s => rw [e] at h; exact fun ρ' H' c d a y r => h σ ρ' H' c d a y (hE.ext y) r
  | stuck => rw [e] at h; exact h

/-! ### targets -/
def rdG (Γ : Gm) (g : Tg) : TG := fun v σ H Q => ∃ ρ env w e, RelE Γ ρ H env σ ∧ RepV Γ ρ H w v ∧ g.run w env = some e ∧ ∀ σ', RelE Γ ρ H e σ' → (∀ j, j ∉ g.slots → σ'[j]? = σ[j]?) → σ'.length = σ.length → Q σ' H
def rdGs (Γ : Gm) (gs : List Tg) : TGs := fun vs σ H Q => ∃ ρ env ws e, RelE Γ ρ H env σ ∧ RepL Γ ρ H ws vs ∧ tgAll gs ws env = some e ∧ ∀ σ', RelE Γ ρ H e σ' → (∀ j, j ∉ gs.flatMap (·.slots) → σ'[j]? = σ[j]?) → σ'.length = σ.length → Q σ' H
theorem g_name (i : Nat) {x : Str} (hN : X.N.Nodup) (hi : X.N[i]? = some x := by rfl) (hx : Loc X.env.scope x := by first | exact .inl rfl | exact .inr rfl) (hf : X.fn x = true ∨ X.env.scope.names.lookup x = some .local := by first | exact .inl rfl | exact .inr rfl) :
    PG X (.Name x pos) (rdG Γ (tgName i)) := by
  refine PG.imp (pg_name hN hi hx hf) ?_
  rintro v σ H Q ⟨ρ, env, w, e, hE, r, eq, k⟩
  simp only [tgName, Option.some.injEq] at eq
  subst eq
  exact k _ (hE.set i r) (fun j hj => by rw [List.getElem?_set_ne (by simpa [tgName, eq_comm] using hj)]) (by simp)
theorem gs_nil : PGs X [] (rdGs Γ []) := by
  refine ⟨fun pins s σ H vs us Q I r h => pgs_nil.run pins s σ H vs us Q I r ?_⟩
  obtain ⟨ρ, env, ws, e, hE, rl, eq, k⟩ := h
  cases ws with
  | nil => cases rl; simp [tgAll] at eq; subst eq; exact ⟨rfl, k σ hE (fun _ _ => rfl) rfl⟩
  | cons w ws => simp [tgAll] at eq
theorem gs_cons {g : Tg} {gs : List Tg} (h1 : PG X e (rdG Γ g)) (h2 : PGs X es (rdGs Γ gs)) (hs : (assignEach (e :: es) X.env).map (·.2) = assign e X.env :: (assignEach es X.env).map (·.2) := by rfl) : PGs X (e :: es) (rdGs Γ (g :: gs)) := by
  refine PGs.imp (pgs_cons h1 h2 hs) ?_
  rintro vs σ H Q ⟨ρ, env, ws, e, hE, rl, eq, k⟩
  cases ws with
  | nil => simp [tgAll] at eq
  | cons w ws =>
    obtain ⟨v, r, rfl, rv, rr⟩ := rl
    simp only [tgAll] at eq
    cases e1 : g.run w env with
    | none => rw [e1] at eq; cases eq
    | some env1 =>
      rw [e1] at eq
      refine ⟨v, r, rfl, ρ, env, w, env1, hE, rv, e1, fun σ1 hE1 o1 l1 => ⟨ρ, env1, ws, e, hE1, rr, eq, fun σ2 hE2 o2 l2 => k σ2 hE2 (fun j hj => ?_) (l2.trans l1)⟩⟩
      simp only [List.flatMap_cons, List.mem_append, not_or] at hj
      rw [o2 j hj.2, o1 j hj.1]
theorem tgAll_len : ∀ {gs : List Tg} {ws : List W} {env e : Env}, tgAll gs ws env = some e → ws.length = gs.length
  | [], [], _, _, _ => rfl
  | [], _ :: _, _, _, h => by simp [tgAll] at h
  | _ :: _, [], _, _, h => by simp [tgAll] at h
  | g :: gs, w :: ws, env, e, h => by
    simp only [tgAll] at h
    cases e1 : g.run w env with
    | none => rw [e1] at h; cases h
    | some env1 => rw [e1] at h; simp [tgAll_len h]
theorem g_tup {gs : List Tg} {k : Nat} (hK : X.K = Γ.K) (hc : X.calm = true) (h : PGs X es (rdGs Γ gs)) (hn : (assignEach es X.env).length = gs.length := by rfl) (hst : (assignEach es X.env).findIdx? (·.1) = none := by rfl) : PG X (.Tuple es k pos) (rdG Γ (tgTup gs)) := by
  refine PG.imp (pg_tup hc h hn hst) ?_
  rintro v σ H Q ⟨ρ, env, w, e, hE, r, eq, k⟩
  cases w with
  | tup ws =>
    obtain ⟨a, vs, rfl, ht, rl⟩ := r
    exact ⟨a, vs, rfl, by rw [hK]; exact ht, by rw [rl.len]; exact tgAll_len eq, ρ, env, ws, e, hE, rl, eq, k⟩
  | _ => simp [tgTup] at eq
theorem s_asg {tg : Expr} {g : Tg} (he : PE X e (rd Γ Z α)) (hg : PG X tg (rdG Γ g)) (hs : swapsWithSole [tg] e pos.line X.env = pure false := by rfl) (hw : swappedStores [tg] e X.env = pure none := by rfl)
    (h1 : (assignEach [tg] X.env).map (·.2) = [assign tg X.env] := by rfl) : PS X (.Assign [tg] e pos) (rdS Γ Z (sAsg g α)) := by
  refine PS.imp (ps_asg he hg hs hw h1) ?_
  rintro D σ H ⟨ρ, env, st, hS, hE, h⟩
  refine ⟨ρ, env, st, hS, hE, ?_⟩
  unfold sAsg at h
  cases e : α env st with
  | ok w s =>
    rw [e] at h
    intro v ρ' H' a x r
    cases e2 : g.run w env with
    | none => simp only [e2] at h; exact h.elim
    | some env1 => simp only [e2] at h; exact ⟨ρ', env, w, env1, hE.ext x, r, e2, fun σ' hE' _ _ => h σ' ρ' H' a x hE'⟩
  | exc x s => rw [e] at h; exact fun ρ' H' c d a y r => h σ ρ' H' c d a y (hE.ext y) r
  | stuck => rw [e] at h; exact h

/-! ### what is walked -/
structure Walks (Γ : Gm) (I : It) (J : L2.It) (ρ : Pl) (H : Hp) : Prop where
  go : ∀ (i : Nat) ρ2 H2 s2, RelS Γ ρ2 H2 s2 → Ext0 Γ ρ H ρ2 H2 → I.guard s2 → ∀ w, I.items[i]? = some w → J.go i H2 ∧ ∀ x H3, J.yld i H2 x H3 → RelS Γ ρ2 H3 s2 ∧ Ext Γ ρ2 H2 ρ2 H3 ∧ RepV Γ ρ2 H3 w x
  stop : ∀ ρ2 H2 s2, RelS Γ ρ2 H2 s2 → Ext0 Γ ρ H ρ2 H2 → I.guard s2 → J.stop I.items.length H2
def PostI (Γ : Gm) (Z : WX) (σ : L2.St) (ρ : Pl) (H : Hp) (Q : L2.It → Hp → Prop) : R It → Prop
  | .ok I st' => ∀ J ρ' H', RelS Γ ρ' H' st' → Ext Γ ρ H ρ' H' → Walks Γ I J ρ' H' → Q J H'
  | .exc x st' => ∀ ρ' H' cls d, RelS Γ ρ' H' st' → Ext Γ ρ H ρ' H' → RepX Γ ρ' H' x cls d → Z cls d σ H'
  | .stuck => False
def rdI (Γ : Gm) (Z : WX) (ι : II) : TI := fun σ H Q => ∃ ρ env st, RelS Γ ρ H st ∧ RelE Γ ρ H env σ ∧ PostI Γ Z σ ρ H Q (ι env st)
theorem Post.bindI {β γ : Type} {rep : Pl → Hp → β → γ → Prop} {σ : L2.St} {ρ : Pl} {H : Hp} {Q : L2.It → Hp → Prop} {r : R β} {f : β → Store → R It} (h : PostI Γ Z σ ρ H Q (r.bind f)) :
    Post Γ rep Z σ ρ H (fun v H1 => ∃ w s1 ρ1, r = .ok w s1 ∧ RelS Γ ρ1 H1 s1 ∧ Ext Γ ρ H ρ1 H1 ∧ rep ρ1 H1 w v ∧ PostI Γ Z σ ρ1 H1 Q (f w s1)) r := by
  cases r with
  | ok w s =>
    intro v ρ' H' a b c
    refine ⟨w, s, ρ', rfl, a, b, c, ?_⟩
    have h : PostI Γ Z σ ρ H Q (f w s) := h
    cases e : f w s with
    | ok I s1 => rw [e] at h; exact fun J ρ2 H2 a2 x2 k => h J ρ2 H2 a2 (b.trans x2) k
    | exc x s1 => rw [e] at h; exact fun ρ2 H2 c d a2 x2 k => h ρ2 H2 c d a2 (b.trans x2) k
    | stuck => rw [e] at h; exact h
  | exc e s => exact h
  | stuck => exact h

/-! ### for -/
theorem s_for {tg iter : Expr} {body : List Stmt} {ι : II} {g : Tg} (hp : PassesOwn (model X.prog X.w) X.A X.env X.xe) (hc : X.calm = true) (hi : PI X tg iter (rdI Γ Z ι)) (hg : PG X tg (rdG Γ g)) (hb : PSs X body (rdS Γ Z ς))
    (hs : ∀ x, foldedSetIterable iter X.env x = pure x := by intro _; rfl) : PS X (.For tg iter body [] pos) (rdS Γ Z (sFor ι g ς)) := by
  refine PS.imp (ps_for hp hc hi hg hb hs) ?_
  rintro D σ H ⟨ρ, env, st, hS, hE, h⟩
  refine ⟨ρ, env, st, hS, hE, ?_⟩
  unfold sFor at h
  cases e : ι env st with
  | exc x s => rw [e] at h; exact fun ρ' H' c d a y r => h σ ρ' H' c d a y (hE.ext y) r
  | stuck => rw [e] at h; exact h
  | ok I s =>
    rw [e] at h
    intro J ρ1 H1 hS1 x1 wk
    refine ⟨fun i m σ' H' => m = I.items.length - i ∧ i ≤ I.items.length ∧ ∃ ρ2 env2 s2, RelS Γ ρ2 H' s2 ∧ RelE Γ ρ2 H' env2 σ' ∧ Ext Γ ρ1 H1 ρ2 H' ∧ PostS Γ Z D ρ2 H' (forGo I.guard g ς (I.items.drop i) env2 s2),
      ⟨_, rfl, Nat.zero_le _, ρ1, env, s, hS1, hE.ext x1, .refl, PostS.ext x1 (by simpa using h)⟩, ?_⟩
    rintro i m σ' H' ⟨rfl, hi, ρ2, env2, s2, hS2, hE2, x2, hp2⟩
    by_cases hl : i < I.items.length
    · rw [List.drop_eq_getElem_cons hl] at hp2
      unfold forGo at hp2
      by_cases hG : I.guard s2
      · rw [if_pos hG] at hp2
        obtain ⟨g1, g2⟩ := wk.go i ρ2 H' s2 hS2 x2.zero hG I.items[i] (List.getElem?_eq_getElem hl)
        refine .inr ⟨g1, fun σ3 H3 => i + 1 ≤ I.items.length ∧ ∃ ρ3 env3 s3, RelS Γ ρ3 H3 s3 ∧ RelE Γ ρ3 H3 env3 σ3 ∧ Ext Γ ρ1 H1 ρ3 H3 ∧ PostS Γ Z D ρ3 H3 (forGo I.guard g ς (I.items.drop (i + 1)) env3 s3), ?_, ?_⟩
        · rintro σ3 H3 ⟨l3, q3⟩
          exact ⟨_, by omega, rfl, l3, q3⟩
        · intro x H3 y
          obtain ⟨hS3, x3, r3⟩ := g2 x H3 y
          cases e2 : g.run I.items[i] env2 with
          | none => rw [e2] at hp2; exact hp2.elim
          | some env3 =>
            simp only [e2] at hp2
            refine ⟨ρ2, env2, _, env3, hE2.ext x3, r3, e2, fun σ4 hE4 _ _ => ⟨ρ2, env3, s2, hS3, hE4, ?_⟩⟩
            cases e3 : ς env3 s2 with
            | nx e5 s5 =>
              simp only [e3] at hp2
              exact fun σ' ρ' H' a x b => ⟨hl, ρ', e5, s5, a, b, (x2.trans x3).trans x, PostS.ext (x3.trans x) hp2⟩
            | cnt e5 s5 =>
              simp only [e3] at hp2
              exact fun σ' ρ' H' a x b => ⟨hl, ρ', e5, s5, a, b, (x2.trans x3).trans x, PostS.ext (x3.trans x) hp2⟩
            | brk e5 s5 =>
              simp only [e3] at hp2
              exact fun σ' ρ' H' a x b => hp2 σ' ρ' H' a (x3.trans x) b
            | ret w s5 =>
              simp only [e3] at hp2
              exact fun v ρ' H' a x b => hp2 v ρ' H' a (x3.trans x) b
            | exc z e5 s5 =>
              simp only [e3] at hp2
              exact fun σ' ρ' H' c d a x b q => hp2 σ' ρ' H' c d a (x3.trans x) b q
            | stuck => simp only [e3] at hp2; exact hp2.elim
      · rw [if_neg hG] at hp2; exact hp2.elim
    · have ei : i = I.items.length := by omega
      subst ei
      rw [List.drop_length] at hp2
      unfold forGo at hp2
      by_cases hG : I.guard s2
      · rw [if_pos hG] at hp2
        exact .inl ⟨wk.stop ρ2 H' s2 hS2 x2.zero hG, hp2 σ' ρ2 H' hS2 .refl hE2⟩
      · rw [if_neg hG] at hp2; exact hp2.elim

/-! ### while -/
theorem s_while {body : List Stmt} (hp : PassesOwn (model X.prog X.w) X.A X.env X.xe) (hc : PT X c (rdT Γ Z τ)) (hb : PSs X body (rdS Γ Z ς)) : PS X (.While c body [] pos) (rdS Γ Z (sWhile τ ς)) := by
  refine PS.imp (ps_while hp hc hb) ?_
  rintro D σ H ⟨ρ, env, st, hS, hE, h⟩
  unfold sWhile at h
  split at h
  · rename_i hex
    refine ⟨fun m σ' H' => ∃ ρ2 env2 s2, RelS Γ ρ2 H' s2 ∧ RelE Γ ρ2 H' env2 σ' ∧ PostS Γ Z D ρ2 H' (whileN τ ς m env2 s2), ⟨_, ρ, env, st, hS, hE, h⟩, ?_⟩
    rintro m σ1 H1 ⟨ρ2, env2, s2, hS2, hE2, hp2⟩
    cases m with
    | zero => exact hp2.elim
    | succ m =>
      unfold whileN at hp2
      refine ⟨ρ2, env2, s2, hS2, hE2, ?_⟩
      cases e : τ env2 s2 with
      | exc x s => rw [e] at hp2; exact fun ρ' H' c d a y r => hp2 σ1 ρ' H' c d a y (hE2.ext y) r
      | stuck => rw [e] at hp2; exact hp2
      | ok k s =>
        rw [e] at hp2
        rintro v ρ3 H3 hS3 x3 rfl
        cases k with
        | false => exact hp2 σ1 ρ3 H3 hS3 x3 (hE2.ext x3)
        | true =>
          refine ⟨fun σ4 H4 => ∃ ρ4 env4 s4, RelS Γ ρ4 H4 s4 ∧ RelE Γ ρ4 H4 env4 σ4 ∧ PostS Γ Z D ρ4 H4 (whileN τ ς m env4 s4), fun σ4 H4 q => ⟨m, Nat.lt_succ_self _, q⟩, ρ3, env2, s, hS3, hE2.ext x3, ?_⟩
          cases e3 : ς env2 s with
          | nx e5 s5 =>
            simp only [e3] at hp2
            exact fun σ' ρ' H' a x b => ⟨ρ', e5, s5, a, b, PostS.ext (x3.trans x) hp2⟩
          | cnt e5 s5 =>
            simp only [e3] at hp2
            exact fun σ' ρ' H' a x b => ⟨ρ', e5, s5, a, b, PostS.ext (x3.trans x) hp2⟩
          | brk e5 s5 =>
            simp only [e3] at hp2
            exact fun σ' ρ' H' a x b => hp2 σ' ρ' H' a (x3.trans x) b
          | ret w s5 =>
            simp only [e3] at hp2
            exact fun v ρ' H' a x b => hp2 v ρ' H' a (x3.trans x) b
          | exc z e5 s5 =>
            simp only [e3] at hp2
            exact fun σ' ρ' H' c d a x b q => hp2 σ' ρ' H' c d a (x3.trans x) b q
          | stuck => simp only [e3] at hp2; exact hp2.elim
  · exact h.elim
end
end M

-- Sound3
set_option Elab.async false
set_option autoImplicit false
set_option linter.all false
set_option maxRecDepth 100000
namespace M
open PySem L2
abbrev Z0 : WX := fun _ _ _ _ => False
section
variable {Γ : Gm} {Z : WX} {X : Cx} {a b c e : Expr} {es : List Expr} {s : Stmt} {ss : List Stmt} {pos : Pos} {α β : IE} {τ τ' : IT} {ς ς' : IS}
/-! ### comprehensions -/
theorem wipeE_len : ∀ (vs : List Nat) (env : Env), (wipeE env vs).length = env.length
  | [], _ => rfl
  | i :: is, env => by unfold wipeE; rw [wipeE_len is]; simp
theorem wipeE_get : ∀ (vs : List Nat) (env : Env) (j : Nat) (w : W), (wipeE env vs)[j]? = some (some w) → env[j]? = some (some w) ∧ j ∉ vs
  | [], env, j, w, h => ⟨h, by simp⟩
  | i :: is, env, j, w, h => by
    unfold wipeE at h
    obtain ⟨h1, h2⟩ := wipeE_get is _ j w h
    by_cases hij : i = j
    · subst hij
      by_cases hi : i < env.length
      · rw [List.getElem?_set_self hi] at h1; cases h1
      · rw [List.getElem?_eq_none (by simpa using hi)] at h1; cases h1
    · rw [List.getElem?_set_ne hij] at h1
      exact ⟨h1, by simp [h2, Ne.symm hij]⟩
theorem wipe_in : ∀ (vs : List Nat) (σ : L2.St) (j : Nat), j ∈ vs → j < σ.length → (wipe σ vs)[j]? = some none
  | [], _, _, h, _ => by simp at h
  | i :: is, σ, j, h, hl => by
    show ((wipe σ is).set i none)[j]? = _
    by_cases hij : i = j
    · subst hij
      rw [List.getElem?_set_self (by rw [wipe_length]; exact hl)]
    · rw [List.getElem?_set_ne hij]
      exact wipe_in is σ j (by rcases List.mem_cons.mp h with z | z; exact absurd z.symm hij; exact z) hl
theorem wipe_eq {σ σ' : L2.St} {vs : List Nat} (hl : σ'.length = σ.length) (h : ∀ j, j ∉ vs → σ'[j]? = σ[j]?) : wipe σ' vs = wipe σ vs := by
  apply List.ext_getElem?
  intro j
  by_cases hj : j ∈ vs
  · by_cases hlt : j < σ.length
    · rw [wipe_in vs σ j hj hlt, wipe_in vs σ' j hj (by rw [hl]; exact hlt)]
    · rw [List.getElem?_eq_none (by rw [wipe_length]; omega), List.getElem?_eq_none (by rw [wipe_length]; omega)]
  · rw [wipe_out hj, wipe_out hj, h j hj]
theorem wipe_wipe {σ : L2.St} {vs : List Nat} : wipe (wipe σ vs) vs = wipe σ vs := wipe_eq (wipe_length _ _) fun j hj => wipe_out hj
theorem RelE.wipe {ρ : Pl} {H : Hp} {env : Env} {σ : L2.St} (h : RelE Γ ρ H env σ) (vs : List Nat) : RelE Γ ρ H (wipeE env vs) (wipe σ vs) :=
  ⟨by rw [wipeE_len, wipe_length, h.len], fun i w e => by
    obtain ⟨e1, n⟩ := wipeE_get vs env i w e
    obtain ⟨v, e2, r⟩ := h.at_ i w e1
    exact ⟨v, by rw [wipe_out n]; exact e2, r⟩⟩
theorem rd_lc {ι : II} {g : Tg} {own : List Nat} (hsub : ∀ j, j ∈ g.slots → j ∈ own) {σ : L2.St} {H : Hp} {Q : VK} (h : rdL Γ Z (lLC ι g τ α own) σ H Q) : tLc (rdI Γ Z ι) (rdG Γ g) (rdT Γ Z0 τ) (rd Γ Z0 α) own σ H Q := by
  obtain ⟨ρ, env, st, hS, hE, h⟩ := h
  refine ⟨ρ, env, st, hS, hE, ?_⟩
  unfold lLC at h
  cases e : ι env st with
  | exc x s => rw [e] at h; exact h
  | stuck => rw [e] at h; exact h
  | ok I s =>
    rw [e, bind_ok] at h
    intro J ρ1 H1 hS1 x1 wk D hD
    have hD0 : H D = none := x1.none_back hS hS1 hD
    refine ⟨fun i m H' => m = I.items.length - i ∧ i ≤ I.items.length ∧ ∃ ρ2 s2 acc vacc, ρ2.off = D :: ρ.off ∧ RelS Γ ρ2 H' s2 ∧ RelE Γ ρ2 H' (wipeE env own) (wipe σ own) ∧ Ext0 Γ ρ1 H1 ρ2 H' ∧ Ext Γ ρ H ⟨ρ2.at_, ρ.off⟩ H' ∧ H' D = some (.lst vacc) ∧ RepL Γ ρ2 H' acc vacc ∧
      PostL Γ Z σ ρ H Q (lcGo I.guard g τ α (wipeE env own) (I.items.drop i) s2 acc),
      ⟨_, rfl, Nat.zero_le _, ρ1.hold D, s, [], [], by show D :: ρ1.off = _; rw [x1.off], hS1.hold hD, ((hE.ext x1).wipe own).ext0 (Ext0.hold hD), Ext0.hold hD, ?_, upd_same, RepL.nil, by simpa using h⟩, ?_⟩
    · exact ⟨x1.pre, fun a vs q => SqT.upd_new hD (x1.tup a vs q), fun a o q n => let ⟨q1, n1⟩ := x1.frm a o q n; ⟨by rw [upd_ne (ne_of_none q hD0)]; exact q1, n1⟩, rfl⟩
    rintro i m H' ⟨rfl, hi, ρ2, s2, acc, vacc, ho2, hS2, hE2, x2, y2, hd2, ra2, hp2⟩
    have hDo : D ∈ ρ2.off := by rw [ho2]; exact List.mem_cons_self ..
    by_cases hl : i < I.items.length
    · rw [List.drop_eq_getElem_cons hl] at hp2
      unfold lcGo at hp2
      by_cases hG : I.guard s2
      · rw [if_pos hG] at hp2
        obtain ⟨g1, g2⟩ := wk.go i ρ2 H' s2 hS2 x2 hG I.items[i] (List.getElem?_eq_getElem hl)
        refine .inr ⟨g1, fun H3 => i + 1 ≤ I.items.length ∧ ∃ ρ3 s3 acc3 vacc3, ρ3.off = D :: ρ.off ∧ RelS Γ ρ3 H3 s3 ∧ RelE Γ ρ3 H3 (wipeE env own) (wipe σ own) ∧ Ext0 Γ ρ1 H1 ρ3 H3 ∧ Ext Γ ρ H ⟨ρ3.at_, ρ.off⟩ H3 ∧ H3 D = some (.lst vacc3) ∧ RepL Γ ρ3 H3 acc3 vacc3 ∧
          PostL Γ Z σ ρ H Q (lcGo I.guard g τ α (wipeE env own) (I.items.drop (i + 1)) s3 acc3), ?_, ?_⟩
        · rintro H3 ⟨l3, q3⟩
          exact ⟨_, by omega, rfl, l3, q3⟩
        · intro x H3 y
          obtain ⟨hS3, x3, r3⟩ := g2 x H3 y
          cases e2 : g.run I.items[i] (wipeE env own) with
          | none => rw [e2] at hp2; exact hp2.elim
          | some env3 =>
            simp only [e2] at hp2
            -- the strong relation to the start, once more on
            have up : ∀ {ρa ρb : Pl} {Ha Hb : Hp}, Ext Γ ρ H ⟨ρa.at_, ρ.off⟩ Ha → Ext Γ ρa Ha ρb Hb → Ext Γ ρ H ⟨ρb.at_, ρ.off⟩ Hb := fun {ρa ρb Ha Hb} u v =>
              ⟨fun n a q => v.pre n a (u.pre n a q), fun a vs q => v.tup a vs (u.tup a vs q), fun a o q n => let ⟨q1, n1⟩ := u.frm a o q n; v.frm a o q1 n1, rfl⟩
            refine ⟨ρ2, wipeE env own, _, env3, hE2.ext x3, r3, e2, fun σ4 hE4 o4 l4 => ⟨?_, ?_⟩⟩
            · rw [← wipe_wipe (σ := σ)]
              exact wipe_eq l4 fun j hj => o4 j fun z => hj (hsub j z)
            refine ⟨ρ2, env3, s2, hS3, hE4, ?_⟩
            cases e3 : τ env3 s2 with
            | exc z s5 => simp only [e3] at hp2; exact hp2.elim
            | stuck => simp only [e3] at hp2; exact hp2.elim
            | ok k s5 =>
              simp only [e3] at hp2
              rintro v ρ5 H5 hS5 x5 rfl
              cases k with
              | false =>
                exact ⟨hl, ρ5, s5, acc, vacc, by rw [x5.off, x3.off.symm.symm]; exact ho2, hS5, hE2.ext (x3.trans x5), (x2.trans x3.zero).trans x5.zero, up (up y2 x3) x5,
                  (x5.frm D _ (x3.frm D _ hd2 (hS2.offs D hDo).2).1 (x3.frm D _ hd2 (hS2.offs D hDo).2).2).1, ra2.ext (x3.trans x5), hp2⟩
              | true =>
                refine ⟨ρ5, env3, s5, hS5, hE4.ext x5, ?_⟩
                simp only at hp2
                cases e5 : α env3 s5 with
                | exc z s6 => simp only [e5] at hp2; exact hp2.elim
                | stuck => simp only [e5] at hp2; exact hp2.elim
                | ok w s6 =>
                  simp only [e5] at hp2
                  by_cases hz : acc.length < lim
                  · rw [if_pos hz] at hp2
                    intro u ρ6 H6 hS6 x6 r6
                    have x36 := (x3.trans x5).trans x6
                    have hd6 : H6 D = some (.lst vacc) := (x36.frm D _ hd2 (hS2.offs D hDo).2).1
                    have hDo6 : D ∈ ρ6.off := by rw [x36.off]; exact hDo
                    have mk : Ext0 Γ ρ6 H6 ρ6 (upd H6 D (.lst (vacc ++ [u]))) := Ext0.making hDo6 hd6 trivial
                    refine ⟨vacc, hd6, by rw [ra2.len]; exact hz, hl, ρ6, s6, acc ++ [w], vacc ++ [u], by rw [x36.off]; exact ho2, hS6.making hDo6 hd6 trivial, (hE2.ext x36).ext0 mk, (x2.trans x36.zero).trans mk, ?_, upd_same, (ra2.ext x36).ext0 mk |>.app (RepL.one (r6.ext0 mk)), hp2⟩
                    have y6 := up y2 x36
                    exact ⟨y6.pre, fun a vs q => SqT.upd_mut hd6 trivial (y6.tup a vs q), fun a o q n => let ⟨q1, n1⟩ := y6.frm a o q n; ⟨by rw [upd_ne (ne_of_none q hD0)]; exact q1, n1⟩, rfl⟩
                  · rw [if_neg hz] at hp2; exact hp2.elim
      · rw [if_neg hG] at hp2; exact hp2.elim
    · have ei : i = I.items.length := by omega
      subst ei
      rw [List.drop_length] at hp2
      unfold lcGo at hp2
      by_cases hG : I.guard s2
      · rw [if_pos hG] at hp2
        refine .inl ⟨wk.stop ρ2 H' s2 hS2 x2 hG, hp2 D vacc ⟨ρ2.at_, ρ.off⟩ H' ⟨hD0, hd2, (hS2.offs D hDo).2, hS.new_no hD0, hS2.done ho2, hS2.doneAdd ho2 (hS.new_no hD0) hd2 ra2, y2, ?_⟩⟩
        exact RepL.cut (ρ := ρ2) (ρ' := ⟨ρ2.at_, ρ.off⟩) (n := ρ2.at_.length) (fun _ _ _ q => q) (fun a q => by rw [ho2]; rcases q with q | q; exact .inl q; exact .inr (List.mem_cons_of_mem _ q)) ra2.bd ra2
      · rw [if_neg hG] at hp2; exact hp2.elim
theorem l_lc {tg iter : Expr} {ifs : List Expr} {scope : Scope} {own : List (Str × Nat)} {ι : II} {g : Tg} (hc : X.calm = true) (hN : X.N.Nodup) (hi : PI X tg iter (rdI Γ Z ι)) (ok : BlkOk X.N X.env.scope scope own)
    (hg : ∀ (s : Shared) (H : Hp) (C : Addr) (cl : List (Str × Addr)) (fp : List Addr), PG (X.blk s H scope (compEnvC scope cl C X.env) fp) tg (rdG Γ g)) (ht : ∀ (s : Shared) (H : Hp) (C : Addr) (cl : List (Str × Addr)) (fp : List Addr), PTs (X.blk s H scope (compEnvC scope cl C X.env) fp) ifs (rdT Γ Z0 τ))
    (he : ∀ (s : Shared) (H : Hp) (C : Addr) (cl : List (Str × Addr)) (fp : List Addr), PE (X.blk s H scope (compEnvC scope cl C X.env) fp) e (rd Γ Z0 α)) (hsub : ∀ j, j ∈ g.slots → j ∈ own.map (·.2) := by decide) (hs : ∀ x, foldedSetIterable iter X.env x = pure x := by intro _; rfl) :
    PE X (.ListComp e [⟨tg, iter, ifs, 0⟩] scope pos) (rdL Γ Z (lLC ι g τ α (own.map (·.2)))) :=
  PE.imp (pe_lc hc hN hi ok hg ht he hs) fun _ _ _ h => rd_lc hsub h
/-- no test, one test, several -/
theorem ts_nil : PTs X [] (rdT Γ Z tYes) := by
  refine ⟨fun pins s σ H Q I h => pts_nil.run pins s σ H Q I ?_⟩
  obtain ⟨ρ, env, st, hS, hE, h⟩ := h
  exact h true ρ H hS .refl rfl
theorem ts_one (h : PT X c (rdT Γ Z τ)) : PTs X [c] (rdT Γ Z τ) := pts_one h
/-- name = [..] on one line -/
theorem s_setLc {i : Nat} {y : Str} {py spos : Pos} {elt tg iter : Expr} {ifs : List Expr} {scope : Scope} {own : List (Str × Nat)} {ι : II} {g : Tg} {wrap : IL → IE} (hw : ∀ (l : IL) σ H Q, rd Γ Z (wrap l) σ H Q → rdL Γ Z l σ H Q) (hc : X.calm = true) (hN : X.N.Nodup) (hy : X.N[i]? = some y) (hyl : X.env.scope.names.lookup y = some .local)
    (hsw : swapsWith (.ListComp elt [⟨tg, iter, ifs, 0⟩] scope pos) (some (.Name y py)) spos.line X.env = pure true) (hi : PI X tg iter (rdI Γ Z ι)) (ok : BlkOk X.N X.env.scope scope own)
    (hg : ∀ (s : Shared) (H : Hp) (C : Addr) (cl : List (Str × Addr)) (fp : List Addr), PG (X.blk s H scope (compEnvC scope cl C X.env) fp) tg (rdG Γ g)) (ht : ∀ (s : Shared) (H : Hp) (C : Addr) (cl : List (Str × Addr)) (fp : List Addr), PTs (X.blk s H scope (compEnvC scope cl C X.env) fp) ifs (rdT Γ Z0 τ))
    (he : ∀ (s : Shared) (H : Hp) (C : Addr) (cl : List (Str × Addr)) (fp : List Addr), PE (X.blk s H scope (compEnvC scope cl C X.env) fp) elt (rd Γ Z0 α)) (hsub : ∀ j, j ∈ g.slots → j ∈ own.map (·.2) := by decide) (hs : ∀ x, foldedSetIterable iter X.env x = pure x := by intro _; rfl) :
    PS X (.Assign [.Name y py] (.ListComp elt [⟨tg, iter, ifs, 0⟩] scope pos) spos) (rdS Γ Z (sSet i (wrap (lLC ι g τ α (own.map (·.2)))))) :=
  PS.imp (ps_setLc hc hN hy hyl hsw hi ok hg ht he hs) fun D σ H h => rd_lc hsub (hw _ _ _ _ (rd_asg h))
theorem w_lst (l : IL) (σ : L2.St) (H : Hp) (Q : VK) (h : rd Γ Z (eLst l) σ H Q) : rdL Γ Z l σ H Q := by
  obtain ⟨ρ, env, st, hS, hE, h⟩ := h
  refine ⟨ρ, env, st, hS, hE, ?_⟩
  unfold eLst at h
  cases e : l env st with
  | ok ws s => rw [e] at h; exact fun a vs ρ' H' f => h (.ref a) ρ' H' f.rel f.x ⟨a, vs, rfl, ⟨f.ob, f.na, f.no⟩, f.rep⟩
  | exc x s => rw [e] at h; exact h
  | stuck => rw [e] at h; exact h
theorem w_new (l : IL) (σ : L2.St) (H : Hp) (Q : VK) (h : rd Γ Z (eNew l) σ H Q) : rdL Γ Z l σ H Q := by
  obtain ⟨ρ, env, st, hS, hE, h⟩ := h
  refine ⟨ρ, env, st, hS, hE, ?_⟩
  unfold eNew at h
  cases e : l env st with
  | ok ws s => rw [e] at h; exact fun a vs ρ' H' f => h (.ref a) (ρ'.add a) H' f.add f.xadd ⟨a, rfl, f.last⟩
  | exc x s => rw [e] at h; exact h
  | stuck => rw [e] at h; exact h

/-! ### calls of the text's defs -/
/-- what a def keeps: it does what f says -/
def spI (Γ : Gm) (n : Nat) (f : Fn) : Sp := fun vs H Q E => vs.length = n ∧ ∃ ρ st args, RelS Γ ρ H st ∧ RepL Γ ρ H args vs ∧ Post Γ (RepV Γ) (fun c d _ H' => E c d H') [] ρ H Q (f args st)
theorem i_call {k : Nat} {f : Addr} {fd : FuncData} {ps : List Str} {fn : Fn} {x : Str} {p : Pos} {αs : List IE} (F : FnOk X.prog X.w X.K X.mg X.base (L2.CX X.prog X.w) k f fd ps (spI Γ ps.length fn)) (hr : Room k X.A) (hm : X.mg x = some (.ref f)) (hk : PySem.W.keepIn X.K (.ref f) = true) (hb : Binds X.K fd ps []) (tk : Takes X Z)
    (ha : PA X (e :: es) (rdA Γ Z (eArgs αs))) (hl : αs.length = ps.length := by rfl) (hg : Gl X x := by rfl) (hdb : (x == ("__debug__" : Str)) = false := by decide) (he : starEach (e :: es) X.env = (false, eval e X.env) :: starEach es X.env := by rfl) (hpl : (backTo pos (starEach es X.env)).any (·.1) = false := by rfl) :
    PE X (.Call (.Name x p) (e :: es) [] pos) (rd Γ Z (eCall fn αs)) := by
  refine PE.imp (pe_callS F hr hg hm hk hb (fun σ => passAt tk σ) ha hdb he hpl) ?_
  rintro σ H Q ⟨ρ, env, st, hS, hE, h⟩
  have len : ∀ (αs : List IE) env st ws s, eArgs αs env st = .ok ws s → ws.length = αs.length := by
    intro αs
    induction αs with
    | nil => intro env st ws s e; cases e; rfl
    | cons a r ih =>
      intro env st ws s e
      unfold eArgs at e
      cases h1 : a env st with
      | ok w s1 =>
        rw [h1] at e
        cases h2 : eArgs r env s1 with
        | ok xs s2 => simp [h2] at e; obtain ⟨rfl, _⟩ := e; simp [ih _ _ _ _ h2]
        | exc x s2 => simp [h2] at e
        | stuck => simp [h2] at e
      | exc x s1 => rw [h1] at e; cases e
      | stuck => rw [h1] at e; cases e
  refine ⟨ρ, env, st, hS, hE, (Post.bind h).mono ?_⟩
  rintro v H1 ⟨w, s1, ρ1, e1, hS1, x1, r1, h1⟩
  refine ⟨by rw [r1.len, len _ _ _ _ _ e1, hl], ρ1, s1, w, hS1, r1, ?_⟩
  cases e2 : fn w s1 with
  | ok u s2 => rw [e2] at h1; exact h1
  | exc x s2 => rw [e2] at h1; exact h1
  | stuck => rw [e2] at h1; exact h1
end
end M

-- Sound4
set_option Elab.async false
set_option autoImplicit false
set_option linter.all false
set_option maxRecDepth 100000
namespace M
open PySem L2
section
variable {Γ : Gm} {Z : WX} {σ : L2.St} {ρ ρ' : Pl} {H H' : Hp} {st st1 : Store} {w : W} {v : V} {Q : VK}
theorem cut_hp (hS : RelS Γ ρ H st) (x : Ext Γ ρ H ρ' H') (m : Nat) (a : Addr) (hm : m < st.length) (h : ρ'.at_[m]? = some a) : ρ.at_[m]? = some a := by
  have hl : m < ρ.at_.length := by rw [hS.len]; exact hm
  have q := x.pre m _ (List.getElem?_eq_getElem hl)
  rw [h] at q
  rw [List.getElem?_eq_getElem hl]
  exact q.symm
theorem cut_hs (x : Ext Γ ρ H ρ' H') (a : Addr) (h : a ∈ ρ.at_ ∨ a ∈ ρ.off) : a ∈ ρ'.at_ ∨ a ∈ ρ'.off := by
  rcases h with h | h
  · obtain ⟨n, hn⟩ := List.getElem?_of_mem h
    exact .inl (List.mem_of_getElem? (x.pre n a hn))
  · exact .inr (by rw [x.off]; exact h)
theorem cut_rel (hS : RelS Γ ρ H st) (hS' : RelS Γ ρ' H' st1) (x : Ext Γ ρ H ρ' H') (o : OldOk st st1) : RelS Γ ρ H' (st1.take st.length) := by
  refine ⟨by rw [hS.len, List.length_take]; have := o.1; omega, hS.nd, fun n c a e1 e2 => ?_, fun a ha => ?_⟩
  · have hn : n < st.length := by rw [← hS.len]; exact (List.getElem?_eq_some_iff.mp e2).1
    rw [List.getElem?_take_of_lt hn] at e1
    have q := hS'.at_ n c a e1 (x.pre n a e2)
    refine CellRep.cut (ρ := ρ') (ρ' := ρ) (n := st.length) (fun m b hm => cut_hp hS x m b hm) (cut_hs x) ?_ q
    rcases o.2 n hn with e | ⟨c', e, hb⟩
    · rw [e1] at e
      have := (hS.at_ n c a e.symm e2).bd
      rwa [hS.len] at this
    · rw [e1] at e; cases e; exact hb
  · have h2 : a ∈ ρ'.off := by rw [x.off]; exact ha
    exact ⟨(hS'.offs a h2).1, (hS.offs a ha).2⟩
theorem cut_ext (x : Ext Γ ρ H ρ' H') : Ext Γ ρ H ρ H' := ⟨fun _ _ q => q, x.tup, fun a o h n => ⟨(x.frm a o h n).1, n⟩, rfl⟩
theorem cut_new (hS : RelS Γ ρ H st) (hS' : RelS Γ ρ' H' st1) (x : Ext Γ ρ H ρ' H') {k : Nat} {a : Addr} (hk : ¬ k < st.length) (ha : ρ'.at_[k]? = some a) : a ∉ ρ.at_ ∧ a ∉ ρ.off := by
  refine ⟨fun z => ?_, fun z => (hS'.offs a (by rw [x.off]; exact z)).2 (List.mem_of_getElem? ha)⟩
  obtain ⟨j, hj⟩ := List.getElem?_of_mem z
  have e := nd_ix hS'.nd (x.pre j a hj) ha
  have hl := (List.getElem?_eq_some_iff.mp hj).1
  rw [hS.len] at hl
  omega
theorem frz_rep (hS : RelS Γ ρ H st) (hS' : RelS Γ ρ' H' st1) (x : Ext Γ ρ H ρ' H') (r : RepV Γ ρ' H' w v) (hb : (frz st.length st1 w).bd st.length = true) : RepV Γ ρ H' (frz st.length st1 w) v := by
  have go : ∀ u : W, u.bd st.length = true → RepV Γ ρ' H' u v → RepV Γ ρ H' u v := fun u h q => RepV.cut (n := st.length) (fun m b hm => cut_hp hS x m b hm) (cut_hs x) h q
  unfold frz at hb ⊢
  cases w with
  | loc k =>
    simp only at hb ⊢
    by_cases hk : k < st.length
    · simp only [if_pos hk] at hb ⊢
      exact go _ hb r
    · simp only [if_neg hk] at hb ⊢
      obtain ⟨a, rfl, ha⟩ := r
      cases e : st1[k]? with
      | none => rw [e] at hb; simp [W.bd] at hb; omega
      | some c =>
        rw [e] at hb
        cases c with
        | lst ws =>
          simp only at hb ⊢
          obtain ⟨vs, ob, rl⟩ := hS'.at_ k _ a e ha
          obtain ⟨n1, n2⟩ := cut_new hS hS' x hk ha
          exact ⟨a, vs, rfl, ⟨ob, n1, n2⟩, RepL.cut (n := st.length) (fun m b hm => cut_hp hS x m b hm) (cut_hs x) (by simpa [W.bd] using hb) rl⟩
        | dict kvs => simp [W.bd] at hb; omega
        | obj c fs => simp [W.bd] at hb; omega
  | _ => exact go _ hb r
theorem fin_ok {m : Mode} (h : Post Γ (RepV Γ) Z σ ρ H Q (fin m st w st1)) (hS : RelS Γ ρ H st) (hS' : RelS Γ ρ' H' st1) (x : Ext Γ ρ H ρ' H') (r : RepV Γ ρ' H' w v) : Q v H' := by
  cases m with
  | raw => exact h v ρ' H' hS' x r
  | pur =>
    unfold fin at h
    simp only at h
    by_cases hc : (frz st.length st1 w).bd st.length = true ∧ OldOk st st1
    · rw [if_pos hc] at h
      exact h v ρ H' (cut_rel hS hS' x hc.2) (cut_ext x) (frz_rep hS hS' x r hc.1)
    · rw [if_neg hc] at h; exact h.elim
  | lst =>
    unfold fin at h
    cases w with
    | loc k =>
      simp only at h
      cases e : st1[k]? with
      | none => rw [e] at h; exact h.elim
      | some c =>
        rw [e] at h
        cases c with
        | dict kvs => exact h.elim
        | obj c fs => exact h.elim
        | lst ws =>
          simp only at h
          by_cases hc : st.length ≤ k ∧ bdL st.length ws = true ∧ OldOk st st1
          · rw [if_pos hc] at h
            obtain ⟨c1, c2, c3⟩ := hc
            obtain ⟨a, rfl, ha⟩ := r
            obtain ⟨vs, ob, rl⟩ := hS'.at_ k _ a e ha
            obtain ⟨n1, n2⟩ := cut_new hS hS' x (by omega) ha
            have hs : ∀ b, b ∈ (ρ.add a).at_ ∨ b ∈ (ρ.add a).off → b ∈ ρ'.at_ ∨ b ∈ ρ'.off := fun b q => by
              rcases q with q | q
              · rcases List.mem_append.mp q with q | q
                · exact cut_hs x b (.inl q)
                · simp at q; subst q; exact .inl (List.mem_of_getElem? ha)
              · exact cut_hs x b (.inr q)
            have hp : ∀ (m : Nat) b, m < st.length → ρ'.at_[m]? = some b → (ρ.add a).at_[m]? = some b := fun m b hm q => by
              show (ρ.at_ ++ [a])[m]? = _
              rw [List.getElem?_append_left (by rw [hS.len]; exact hm)]
              exact cut_hp hS x m b hm q
            have hr := cut_rel hS hS' x c3
            have lt : (st1.take st.length).length = st.length := by rw [List.length_take]; have := c3.1; omega
            refine h (.ref a) (ρ.add a) H' ⟨?_, ?_, fun n c b e1 e2 => ?_, fun b hb => ?_⟩ ⟨fun n b q => ?_, x.tup, fun b o q n => ?_, rfl⟩ ⟨a, rfl, ?_⟩
            · show (ρ.at_ ++ [a]).length = _
              simp [hS.len, lt]
            · show (ρ.at_ ++ [a]).Nodup
              rw [List.nodup_append]
              exact ⟨hS.nd, by simp, fun b hb d hd => by simp at hd; subst hd; rintro rfl; exact n1 hb⟩
            · have e2 : (ρ.at_ ++ [a])[n]? = some b := e2
              by_cases hl : n < st.length
              · rw [List.getElem?_append_left (by rw [lt]; exact hl)] at e1
                rw [List.getElem?_append_left (by rw [hS.len]; exact hl)] at e2
                have e1' : st1[n]? = some c := by rw [List.getElem?_take_of_lt hl] at e1; exact e1
                refine CellRep.cut (ρ := ρ') (n := st.length) hp hs ?_ (hS'.at_ n c b e1' (x.pre n b e2))
                have := (hr.at_ n c b e1 e2).bd
                rwa [hS.len] at this
              · have hl2 := (List.getElem?_eq_some_iff.mp e1).1
                have en : n = st.length := by simp [lt] at hl2; omega
                subst en
                rw [List.getElem?_append_right (by rw [lt]; exact Nat.le_refl _), lt] at e1
                rw [List.getElem?_append_right (by rw [hS.len]; exact Nat.le_refl _), hS.len] at e2
                simp at e1 e2
                subst e1; subst e2
                exact ⟨vs, ob, RepL.cut (n := st.length) hp hs c2 rl⟩
            · have h2 : b ∈ ρ'.off := by rw [x.off]; exact hb
              refine ⟨(hS'.offs b h2).1, ?_⟩
              show b ∉ ρ.at_ ++ [a]
              simp only [List.mem_append, List.mem_singleton, not_or]
              exact ⟨(hS.offs b hb).2, fun z => n2 (by rw [← z]; exact hb)⟩
            · show (ρ.at_ ++ [a])[n]? = _
              rw [List.getElem?_append_left (List.getElem?_eq_some_iff.mp q).1]
              exact q
            · obtain ⟨q1, q2⟩ := x.frm b o q n
              refine ⟨q1, ?_⟩
              show b ∉ ρ.at_ ++ [a]
              simp only [List.mem_append, List.mem_singleton, not_or]
              exact ⟨n, fun z => q2 (by rw [z]; exact List.mem_of_getElem? ha)⟩
            · show (ρ.at_ ++ [a])[st.length]? = _
              rw [List.getElem?_append_right (by rw [hS.len]; exact Nat.le_refl _), hS.len]
              simp
          · rw [if_neg hc] at h; exact h.elim
    | _ => exact h.elim
theorem finX_ok {m : Mode} {x : Ex} {cls : Value} {d : Option Addr} (h : Post Γ (RepV Γ) Z σ ρ H Q (finX m st x st1)) (hS : RelS Γ ρ H st) (hS' : RelS Γ ρ' H' st1) (y : Ext Γ ρ H ρ' H') (r : RepX Γ ρ' H' x cls d) : Z cls d σ H' := by
  have fin : ∀ (c : x.bd st.length = true ∧ OldOk st st1), RepX Γ ρ H' x cls d := fun c => by
    obtain ⟨r1, r2⟩ := r
    refine ⟨r1, ?_⟩
    obtain ⟨c1, _⟩ := c
    unfold Ex.bd at c1
    cases e : x.d with
    | none => rw [e] at r2; exact r2
    | some fs =>
      rw [e] at r2 c1
      obtain ⟨da, gs, q1, q2, q3, q4⟩ := r2
      exact ⟨da, gs, q1, q2, q3, RepL.cut (n := st.length) (fun m b hm => cut_hp hS y m b hm) (cut_hs y) c1 q4⟩
  cases m with
  | raw => exact h ρ' H' cls d hS' y r
  | pur =>
    unfold finX at h
    simp only at h
    by_cases hc : x.bd st.length = true ∧ OldOk st st1
    · rw [if_pos hc] at h; exact h ρ H' cls d (cut_rel hS hS' y hc.2) (cut_ext y) (fin hc)
    · rw [if_neg hc] at h; exact h.elim
  | lst =>
    unfold finX at h
    simp only at h
    by_cases hc : x.bd st.length = true ∧ OldOk st st1
    · rw [if_pos hc] at h; exact h ρ H' cls d (cut_rel hS hS' y hc.2) (cut_ext y) (fin hc)
    · rw [if_neg hc] at h; exact h.elim
theorem RepL.maps {args : List W} {vs : List V} (h : RepL Γ ρ H args vs) (n : Nat) : RelE Γ ρ H (args.map some ++ List.replicate (n - args.length) none) (vs.map some ++ List.replicate (n - vs.length) none) := by
  refine ⟨by simp [h.len], fun i w e => ?_⟩
  by_cases hi : i < args.length
  · rw [List.getElem?_append_left (by simpa using hi), List.getElem?_map] at e
    rw [List.getElem?_append_left (by simpa [h.len] using hi), List.getElem?_map]
    cases e1 : args[i]? with
    | none => rw [e1] at e; cases e
    | some u =>
      rw [e1] at e; cases e
      obtain ⟨v, hv, r⟩ := h.get e1
      exact ⟨v, by rw [hv]; rfl, r⟩
  · rw [List.getElem?_append_right (by simpa using hi)] at e
    rw [List.getElem?_replicate] at e
    split at e <;> cases e
end
section
variable {P : Program} {wo : World} {Γ : Gm} {mg : Str → Option Value} {base : Heap}
/-- THE RULE for a def of the text -/
theorem fn_i {x qual : Str} {st : Stmt} {f : Addr} {fd : FuncData} {N ps : List Str} {k : Nat} {m : Mode} {ς : IS} (F : Fun Γ.K x qual st f fd) (S : FnScope N ps (defScope st))
    (hbody : ∀ (cdv : Value) (A : Around) (outer : List PySem.Env) (s : Shared) (H : Hp) (E : XK), Room k (A.deeper (PyProof.Rows.envOfC qual (defScope st) s.heap.objs.size f cdv)) →
      PSs (cxOf (L2.CX P wo) P wo Γ.K mg base N qual (defScope st) f cdv A outer s H E) (defBody st) (rdS Γ (fun c d _ H' => E c d H') ς)) :
    FnOk P wo Γ.K mg base (L2.CX P wo) (k + 1) f fd ps (spI Γ ps.length (runDef N.length m ς)) := by
  refine F.okX S (fun vs H Q E h => h.1) (fun cdv A outer s H vs Q E hr h => ?_)
  obtain ⟨hl, ρ, st0, args, hS, rl, hp⟩ := h
  refine ⟨_, hbody cdv A outer s H E hr, ρ, _, st0, hS, rl.maps N.length, ?_⟩
  unfold runDef at hp
  cases e : ς (args.map some ++ List.replicate (N.length - args.length) none) st0 with
  | nx env1 st1 =>
    rw [e] at hp
    exact fun σ' ρ' H' a b c => fin_ok hp hS a b (w := .non) (v := .non) rfl
  | ret w st1 =>
    rw [e] at hp
    exact fun v ρ' H' a b c => fin_ok hp hS a b c
  | exc z env1 st1 =>
    rw [e] at hp
    exact fun σ' ρ' H' c d a b q r => finX_ok (Z := fun c d _ H' => E c d H') hp hS a b r
  | brk env1 st1 => rw [e] at hp; exact hp.elim
  | cnt env1 st1 => rw [e] at hp; exact hp.elim
  | stuck => rw [e] at hp; exact hp.elim
end
end M

-- Iters
set_option Elab.async false
set_option autoImplicit false
set_option linter.all false
set_option maxRecDepth 100000
namespace M
open PySem L2
/-! ### enumerate(x), one argument, whatever begins -/
set_option maxHeartbeats 1000000 in
theorem enum1_meets {v : Value} {ob : Obj} {Hh : Heap → Prop} (B : Begins v ob Hh) :
    Meets (Builtin.«enumerate.__new__» ⟨[.type "enumerate", v], []⟩) (fun _ RR sh => Hh sh.heap ∧
      RR (.ok (.ret (.ref (sh.heap.push ob).objs.size))) { sh with heap := (sh.heap.push ob).push { cls := .type "enumerate", data := .fields #[.none, .bool false, .ref sh.heap.objs.size, rawInt 0, .none, .none] } }) :=
  .of_wp fun pr wo Ar RR sh hy => by
    obtain ⟨hp, ge, dr, tk, os⟩ := sh; obtain ⟨hy1, hy2⟩ := hy
    have subE := sub_enumerate
    have go : ∀ {A' : Around} {E : Value → Shared → Prop} {Q : Value → Shared → Prop}, Q (.ref hp.objs.size) ⟨hp.push ob, ge, dr, tk, os⟩ → wpAny (model pr wo) A' (pyIter v) Q E ⟨hp, ge, dr, tk, os⟩ :=
      fun qq => B.iter pr wo _ _ ⟨hp, ge, dr, tk, os⟩ _ hy1 qq
    wp_walk using go
    refine wpAny_stack_any fun sta => wpAny_pure ?_
    split
    · rename_i cc _ _ _ _ _
      cases (cc == Value.type "enumerate")
      all_goals (wp_walk using go; exact ⟨_, rfl, hy2⟩)
    · (wp_walk using go; exact ⟨_, rfl, hy2⟩)
theorem enum1_begins {prog : Program} {w : World} {A : Around} {E : Value → Shared → Prop} {s : Shared} {v : Value} {ob : Obj} {Hh : Heap → Prop} {Q : Value → Shared → Prop} (B : Begins v ob Hh) (h1 : Hh s.heap)
    (h : ∀ h', IsEnum h' (s.heap.objs.size + 1) s.heap.objs.size 0 .none → h'.get? s.heap.objs.size = some ob → (∀ b o, s.heap.get? b = some o → h'.get? b = some o) → Q (.ref (s.heap.objs.size + 1)) { s with heap := h' }) :
    wpAny (model prog w) A (call (.type "enumerate") [v]) Q E s := by
  refine callType_new F.called_enumerate (by decide) (F.typeCall_enumerate_1 _) (F.newCall_enumerate_1 _) (fun x => F.args_object_init_2 x _) F.entry_enumerate_new (enum1_meets B) ⟨h1, ?_⟩
  have sz : (s.heap.push ob).objs.size = s.heap.objs.size + 1 := Heap.size_push ..
  show _ ∧ _
  rw [sz]
  have ie : IsEnum ((s.heap.push ob).push { cls := .type "enumerate", data := .fields #[.none, .bool false, .ref s.heap.objs.size, rawInt 0, .none, .none] }) (s.heap.objs.size + 1) s.heap.objs.size 0 .none := by
    have z := Heap.get?_push_size (s.heap.push ob) (o := { cls := .type "enumerate", data := .fields #[.none, .bool false, .ref s.heap.objs.size, rawInt 0, .none, .none] }) rfl
    rw [sz] at z
    exact z
  exact ⟨⟨_, ie, rfl⟩, h _ ie (Heap.get?_push_of_some _ (Heap.get?_push_size _ B.free)) fun b o x => Heap.get?_push_of_some _ (Heap.get?_push_of_some _ x)⟩

/-! ### a list or a tuple -/
def SqK (K : PySem.W.Frag) (t : Bool) (H : Hp) (a : Addr) (xs : List V) : Prop := if t = true then SqT K H a xs else SqL K H a xs
def IsK (t : Bool) (h : Heap) (a : Addr) (its : Array Value) : Prop := if t = true then h.IsTuple a its else h.IsList a its
def ItK (t : Bool) (h : Heap) (i a : Addr) (n : Nat) : Prop := if t = true then h.IsTupleIter i a n else h.IsListIter i a n
def obK (t : Bool) (a : Addr) : Obj := if t = true then { cls := .type "tuple_iterator", data := .fields #[.ref a, .int 0 0] } else { cls := .type "list_iterator", data := .fields #[.ref a, .int 0 0] }
theorem obK_it {t : Bool} {h : Heap} {i a : Addr} (e : h.get? i = some (obK t a)) : ItK t h i a 0 := by
  cases t <;> exact ⟨_, e, rfl, rfl⟩
theorem begins_K (t : Bool) (a : Addr) (its : Array Value) : Begins (.ref a) (obK t a) (fun h => IsK t h a its) := by
  cases t
  · exact begins_list a its
  · exact begins_tuple a its
theorem draws_K {prog : Program} {w : World} {A : Around} (hh : A.handled = none) (t : Bool) (i a : Addr) (hne : a ≠ i) (its : Array Value) :
    Draws prog w A i [i, a] its.size (fun n v => its[n]? = some v) (fun n h => ItK t h i a n ∧ IsK t h a its) := by
  cases t
  · exact Draws.list hh i a hne its
  · exact Draws.tuple hh i a hne its
theorem ItK.at {t : Bool} {h h' : Heap} {i a : Addr} {n : Nat} (x : ItK t h i a n) (k : ∀ o, h.get? i = some o → h'.get? i = some o) : ItK t h' i a n := by
  cases t
  · exact Heap.IsListIter.at x k
  · exact Heap.IsTupleIter.at x k
theorem ItK.there {t : Bool} {h : Heap} {i a : Addr} {n : Nat} (x : ItK t h i a n) : ∃ o, h.get? i = some o ∧ ∀ v, o.data ≠ .cell v := by
  cases t
  · obtain ⟨o, e, _, d⟩ := x; exact ⟨o, e, fun v q => by rw [d] at q; cases q⟩
  · obtain ⟨o, e, _, d⟩ := x; exact ⟨o, e, fun v q => by rw [d] at q; cases q⟩
section
variable {X : Cx} {pins : List (Addr × Obj)} {σ : L2.St} {H : Hp} {s : Shared} {a : Addr} {xs ys : List V} {t : Bool}
theorem inv_K (I : Inv X pins σ H s) (h : SqK X.K t H a xs) : ∃ its : List Value, Vals xs its ∧ IsK t s.heap a its.toArray ∧ xs.length ≤ sizeLine := by
  cases t
  · obtain ⟨its, r, p, z⟩ := I.list h; exact ⟨its, r, p.isList, z⟩
  · obtain ⟨its, r, p, z⟩ := I.tuple h; exact ⟨its, r, p, z⟩
theorem inv_K_inj (I : Inv X pins σ H s) (h : SqK X.K t H a xs) (h' : SqK X.K t H a ys) : xs = ys := by
  cases t
  · exact I.list_inj h h'
  · exact I.tuple_inj h h'
theorem IsK.lt {h : Heap} {its : Array Value} (x : IsK t h a its) : a < h.objs.size := by
  cases t
  · obtain ⟨o, e, _⟩ := x; exact Heap.lt_size e
  · obtain ⟨o, e, _⟩ := x; exact Heap.lt_size e
end

/-- enumerate over a list or tuple -/
def JEn (K : PySem.W.Frag) (t : Bool) (a : Addr) : L2.It :=
  ⟨fun i H => ∃ (xs : List V) (x : V), SqK K t H a xs ∧ xs[i]? = some x, fun i H v H' => ∃ T x, v = .ref T ∧ H T = none ∧ H' = upd H T (.tup [.int (i : Nat), x]) ∧ ∀ xs, SqK K t H a xs → xs[i]? = some x,
   fun i H => ∃ xs : List V, SqK K t H a xs ∧ xs.length = i⟩
theorem turn_en {P : Program} {w : World} {K : PySem.W.Frag} {elts : List Expr} {kk : Nat} {tp : Pos} (t : Bool) (a e it : Addr) (hne : e ≠ it) (hae : a ≠ e) (hai : a ≠ it) :
    Turn P w K (.Tuple elts kk tp) (JEn K t a) [e, it] e (fun i h => (∃ old, IsEnum h e it ((i : Nat) : Int) old) ∧ ItK t h it a i) where
  mem := by simp
  obj := fun i h st b hb => by
    obtain ⟨⟨old, he⟩, hi⟩ := st
    rcases List.mem_cons.mp hb with rfl | hb
    · exact ⟨_, he, fun v q => nomatch q⟩
    · simp at hb; subst hb; exact hi.there
  keep := fun i h h' st k => let ⟨⟨old, he⟩, hi⟩ := st; ⟨⟨old, k e (by simp) _ he⟩, hi.at fun o q => k it (by simp) o q⟩
  item := by
    intro X hP hw hK hc i pins s σ H E I hf st hg
    subst hP hw hK
    obtain ⟨⟨old, he⟩, hit⟩ := st
    obtain ⟨xs, x, hq, hx⟩ := hg
    obtain ⟨its, rv, p, hz⟩ := inv_K I hq
    have hi : i < its.length := by rw [← rv.length]; exact (List.getElem?_eq_some_iff.mp hx).1
    have W := GoesN.enumFrom (prog := X.prog) (w := X.w) (A := X.A) (elts := elts) (x1 := kk) (pos := tp) 0 (draws_K (A := X.A.in1) (by exact I.ok.hd hc) t it a hai its.toArray) e hne (by simp [hne, Ne.symm hae]) (by simp)
    refine W.goes i s _ E (by simpa using hi) ⟨⟨old, by simpa using he⟩, hit, p⟩ ?_
    rintro v h' tk ⟨T, tk', u, rfl, hT, hu, hTup⟩ ⟨⟨old', he'⟩, hit', p'⟩ hk htk
    obtain ⟨u', hu', ru⟩ := rv.get hx
    have eu : u' = u := by simp at hu; rw [hu'] at hu; exact Option.some.inj hu
    subst eu
    have new : ObjOk X.prog X.w (upd H T (.tup [.int (i : Nat), x])) h' T (.tup [.int (i : Nat), x]) :=
      ⟨by show 2 ≤ sizeLine; decide, [.int (0 + (i : Int)) tk', u'], .cons ⟨tk', by simp⟩ (.cons ru .nil), hTup⟩
    refine ⟨.ref T, _, I.turnedNew (t' := tk) (ch := [e, it]) hk hf hT new, rfl, ⟨T, x, rfl, I.hok.fresh hT, rfl, fun ys hy => by rw [inv_K_inj I hy hq]; exact hx⟩, ⟨⟨old', by simpa using he'⟩, hit'⟩, fun b hb => ?_⟩
    have hbl : b < s.heap.objs.size := by
      rcases List.mem_cons.mp hb with rfl | hb
      · exact Heap.lt_size he
      · simp at hb; subst hb; obtain ⟨o, q, _⟩ := hit.there; exact Heap.lt_size q
    rw [upd_ne (Nat.ne_of_lt (Nat.lt_of_lt_of_le hbl hT))]
    exact (hf b hb).1
  done := by
    intro X hP hw hK hc i pins s σ H E I hf st hg
    subst hP hw hK
    obtain ⟨⟨old, he⟩, hit⟩ := st
    obtain ⟨xs, hq, hx⟩ := hg
    obtain ⟨its, rv, p, hz⟩ := inv_K I hq
    have hi : i = its.toArray.size := by simp [← rv.length, hx]
    subst hi
    have W := GoesN.enumFrom (prog := X.prog) (w := X.w) (A := X.A) (elts := elts) (x1 := kk) (pos := tp) 0 (draws_K (A := X.A.in1) (by exact I.ok.hd hc) t it a hai its.toArray) e hne (by simp [hne, Ne.symm hae]) (by simp)
    exact W.stops s _ E ⟨⟨old, by simpa using he⟩, hit, p⟩ fun h' tk hk htk => I.turnedL (t' := tk) (ch := [e, it]) hk hf
  self := fun A i s Q E st h => let ⟨⟨_, he⟩, _⟩ := st; wpAny_pyIter_enum he h
def iEnK (K : PySem.W.Frag) (ta : TA) : TI := fun σ H R => ta σ H fun vs H1 => ∃ t a xs, vs = [.ref a] ∧ SqK K t H1 a xs ∧ R (JEn K t a) H1
theorem pi_en {X : Cx} {e : Expr} {ta : TA} {p pos tp : Pos} {elts : List Expr} {kk : Nat} (hm : X.mg "enumerate" = none) (ha : PA X [e] ta) (hg : Gl X "enumerate" := by rfl) (hs : starEach [e] X.env = [(false, eval e X.env)] := by rfl) :
    PI X (.Tuple elts kk tp) (.Call (.Name "enumerate" p) [e] [] pos) (iEnK X.K ta) := by
  refine ⟨fun pins s σ H R I h => PyProof.Rows.Call_ (ld_blt I hg hm PyProof.Rows.boot_enumerate (PyProof.Rows.callWith_type1 (thn (ha.run pos pins s σ H _ I h) fun us s1 hh => ?_) hs rfl))⟩
  obtain ⟨vs, H1, I1, r1, t, a, xs, rfl, hq, q⟩ := hh
  obtain ⟨u, rfl, ru⟩ := vals1 r1
  cases ru
  obtain ⟨its, rv, p', hz⟩ := inv_K I1 hq
  have hla := p'.lt
  refine enum1_begins (begins_K t a its.toArray) p' fun h' he hit hk => wpAny_pyIter_enum he ?_
  have I2 : Inv X pins σ H1 { s1 with heap := h' } := I1.kept (t' := s1.toks) hk
  refine ⟨s1.heap.objs.size + 1, [s1.heap.objs.size + 1, s1.heap.objs.size], _, _, H1, rfl, I2, turn_en t a _ _ (Nat.succ_ne_self _) (Nat.ne_of_lt (Nat.lt_succ_of_lt hla)) (Nat.ne_of_lt hla), ⟨⟨_, he⟩, obK_it hit⟩, fun b hb => ?_, q⟩
  have hle : s1.heap.objs.size ≤ b := by
    rcases List.mem_cons.mp hb with rfl | hb
    · exact Nat.le_succ _
    · simp at hb; subst hb; exact Nat.le_refl _
  exact I1.fpOk hle (I1.hok.fresh hle)

/-- zip of two -/
def JZi (K : PySem.W.Frag) (t u : Bool) (a b : Addr) : L2.It :=
  ⟨fun i H => ∃ (xs ys : List V) (x y : V), SqK K t H a xs ∧ SqK K u H b ys ∧ xs[i]? = some x ∧ ys[i]? = some y,
   fun i H v H' => ∃ T x y, v = .ref T ∧ H T = none ∧ H' = upd H T (.tup [x, y]) ∧ (∀ xs, SqK K t H a xs → xs[i]? = some x) ∧ ∀ ys, SqK K u H b ys → ys[i]? = some y,
   fun i H => ∃ xs ys : List V, SqK K t H a xs ∧ SqK K u H b ys ∧ min xs.length ys.length = i⟩
theorem turn_zi {P : Program} {w : World} {K : PySem.W.Frag} {elts : List Expr} {kk : Nat} {tp : Pos} (t u : Bool) (a b z TI TO i1 i2 : Addr) (S : ZipSep2 z TI TO i1 i2 [i1, a] [i2, b]) (h1 : a ≠ i1) (h2 : b ≠ i2) :
    Turn P w K (.Tuple elts kk tp) (JZi K t u a b) [z, TI, TO, i1, i2] z (fun i h => IsZip h z TI TO .none ∧ IsTupOf2 h TI (.ref i1) (.ref i2) ∧ (∃ q1 q2, IsTupOf2 h TO q1 q2) ∧ ItK t h i1 a i ∧ ItK u h i2 b i) where
  mem := by simp
  obj := fun i h st c hc => by
    obtain ⟨hz, hI, ⟨q1, q2, hO⟩, j1, j2⟩ := st
    simp at hc
    rcases hc with rfl | rfl | rfl | rfl | rfl
    · exact ⟨_, hz, fun v q => nomatch q⟩
    · exact ⟨_, hI, fun v q => nomatch q⟩
    · exact ⟨_, hO, fun v q => nomatch q⟩
    · exact j1.there
    · exact j2.there
  keep := fun i h h' st k => by
    obtain ⟨hz, hI, ⟨q1, q2, hO⟩, j1, j2⟩ := st
    exact ⟨k z (by simp) _ hz, k TI (by simp) _ hI, ⟨q1, q2, k TO (by simp) _ hO⟩, j1.at fun o q => k i1 (by simp) o q, j2.at fun o q => k i2 (by simp) o q⟩
  item := by
    intro X hP hw hK hc i pins s σ H E I hf st hg
    subst hP hw hK
    obtain ⟨hz, hI, hO, j1, j2⟩ := st
    obtain ⟨xs, ys, x, y, hq, hq', hx, hy⟩ := hg
    obtain ⟨its, rv, p, _⟩ := inv_K I hq
    obtain ⟨its', rv', p', _⟩ := inv_K I hq'
    have l1 : i < its.length := by rw [← rv.length]; exact (List.getElem?_eq_some_iff.mp hx).1
    have l2 : i < its'.length := by rw [← rv'.length]; exact (List.getElem?_eq_some_iff.mp hy).1
    have W := GoesN.zip2 (prog := X.prog) (w := X.w) (A := X.A) (elts := elts) (x1 := kk) (pos := tp) S (draws_K (A := X.A.in1) (by exact I.ok.hd hc) t i1 a h1 its.toArray) (draws_K (A := X.A.in1) (by exact I.ok.hd hc) u i2 b h2 its'.toArray)
    refine W.goes i s _ E (by simp; omega) ⟨hz, hI, hO, ⟨j1, p⟩, ⟨j2, p'⟩⟩ ?_
    rintro v h' tk ⟨T, v1, v2, rfl, hT, e1, e2, hTup⟩ ⟨hz', hI', hO', ⟨j1', _⟩, ⟨j2', _⟩⟩ hk htk
    obtain ⟨u1, hu1, ru1⟩ := rv.get hx
    obtain ⟨u2, hu2, ru2⟩ := rv'.get hy
    have eu1 : u1 = v1 := by simp at e1; rw [hu1] at e1; exact Option.some.inj e1
    have eu2 : u2 = v2 := by simp at e2; rw [hu2] at e2; exact Option.some.inj e2
    subst eu1; subst eu2
    have new : ObjOk X.prog X.w (upd H T (.tup [x, y])) h' T (.tup [x, y]) := ⟨by show 2 ≤ sizeLine; decide, [u1, u2], .cons ru1 (.cons ru2 .nil), hTup⟩
    have sub : ∀ c, c ∈ [z, TO, i1, i2] → c ∈ [z, TI, TO, i1, i2] := fun c hc => by simp at hc ⊢; rcases hc with h | h | h | h <;> simp [h]
    refine ⟨.ref T, _, I.turnedNew (t' := tk) (ch := [z, TO, i1, i2]) hk (fun c hc => hf c (sub c hc)) hT new, rfl, ⟨T, x, y, rfl, I.hok.fresh hT, rfl, fun l hl => by rw [inv_K_inj I hl hq]; exact hx, fun l hl => by rw [inv_K_inj I hl hq']; exact hy⟩, ⟨hz', hI', hO', j1', j2'⟩, fun c hcc => ?_⟩
    have hbl : c < s.heap.objs.size := by
      have hcc' := hcc
      simp at hcc'
      rcases hcc' with rfl | rfl | rfl | rfl | rfl
      · exact Heap.lt_size hz
      · exact Heap.lt_size hI
      · obtain ⟨_, _, e⟩ := hO; exact Heap.lt_size e
      · obtain ⟨o, e, _⟩ := j1.there; exact Heap.lt_size e
      · obtain ⟨o, e, _⟩ := j2.there; exact Heap.lt_size e
    rw [upd_ne (Nat.ne_of_lt (Nat.lt_of_lt_of_le hbl hT))]
    exact (hf c hcc).1
  done := by
    intro X hP hw hK hc i pins s σ H E I hf st hg
    subst hP hw hK
    obtain ⟨hz, hI, hO, j1, j2⟩ := st
    obtain ⟨xs, ys, hq, hq', hx⟩ := hg
    obtain ⟨its, rv, p, _⟩ := inv_K I hq
    obtain ⟨its', rv', p', _⟩ := inv_K I hq'
    have hi : i = min its.toArray.size its'.toArray.size := by simp [← rv.length, ← rv'.length, hx]
    subst hi
    have W := GoesN.zip2 (prog := X.prog) (w := X.w) (A := X.A) (elts := elts) (x1 := kk) (pos := tp) S (draws_K (A := X.A.in1) (by exact I.ok.hd hc) t i1 a h1 its.toArray) (draws_K (A := X.A.in1) (by exact I.ok.hd hc) u i2 b h2 its'.toArray)
    have sub : ∀ c, c ∈ [z, TO, i1, i2] → c ∈ [z, TI, TO, i1, i2] := fun c hc => by simp at hc ⊢; rcases hc with h | h | h | h <;> simp [h]
    exact W.stops s _ E ⟨hz, hI, hO, ⟨j1, p⟩, ⟨j2, p'⟩⟩ fun h' tk hk htk => I.turnedL (t' := tk) (ch := [z, TO, i1, i2]) hk fun c hc => hf c (sub c hc)
  self := fun A i s Q E st h => wpAny_pyIter_zip st.1 h
def iZiK (K : PySem.W.Frag) (ta : TA) : TI := fun σ H R => ta σ H fun vs H1 => ∃ t u a b xs ys, vs = [.ref a, .ref b] ∧ SqK K t H1 a xs ∧ SqK K u H1 b ys ∧ R (JZi K t u a b) H1
theorem pi_zi {X : Cx} {e e2 : Expr} {ta : TA} {p pos tp : Pos} {elts : List Expr} {kk : Nat} (hm : X.mg "zip" = none) (ha : PA X [e, e2] ta) (hg : Gl X "zip" := by rfl) (hs : starEach [e, e2] X.env = (false, eval e X.env) :: starEach [e2] X.env := by rfl) (hpl : (backTo pos (starEach [e2] X.env)).any (·.1) = false := by rfl) :
    PI X (.Tuple elts kk tp) (.Call (.Name "zip" p) [e, e2] [] pos) (iZiK X.K ta) := by
  refine ⟨fun pins s σ H R I h => PyProof.Rows.Call_ (ld_blt I hg hm PyProof.Rows.boot_zip (PyProof.Rows.callWith_type1 (thn (ha.run pos pins s σ H _ I h) fun us s1 hh => ?_) hs hpl))⟩
  obtain ⟨vs, H1, I1, r1, t, u, a, b, xs, ys, rfl, hq, hq', q⟩ := hh
  obtain ⟨u1, u2, rfl, ru1, ru2⟩ := vals2 r1
  cases ru1; cases ru2
  obtain ⟨its, rv, p1, _⟩ := inv_K I1 hq
  obtain ⟨its', rv', p2, _⟩ := inv_K I1 hq'
  have la := p1.lt
  have lb := p2.lt
  refine zip_begins2 (begins_K t a its.toArray) (begins_K u b its'.toArray) p1 p2 fun h' hz hI hO g1 g2 hsz hk => wpAny_pyIter_zip hz ?_
  have I2 : Inv X pins σ H1 { s1 with heap := h' } := I1.kept (t' := s1.toks) hk
  refine ⟨s1.heap.objs.size + 4, [s1.heap.objs.size + 4, s1.heap.objs.size + 2, s1.heap.objs.size + 3, s1.heap.objs.size, s1.heap.objs.size + 1], _, _, H1, rfl, I2,
    turn_zi t u a b _ _ _ _ _ (zip_sep2 (fp1 := [a]) (fp2 := [b]) (fun c hc => by simp at hc; subst hc; exact la) (fun c hc => by simp at hc; subst hc; exact lb)) (Nat.ne_of_lt la) (Nat.ne_of_lt (Nat.lt_succ_of_lt lb)), ⟨hz, hI, ⟨_, _, hO⟩, obK_it g1, obK_it g2⟩, fun c hc => ?_, q⟩
  have hle : s1.heap.objs.size ≤ c := by
    simp at hc
    rcases hc with rfl | rfl | rfl | rfl | rfl
    · exact Nat.le_add_right _ _
    · exact Nat.le_add_right _ _
    · exact Nat.le_add_right _ _
    · exact Nat.le_refl _
    · exact Nat.le_add_right _ _
  exact I1.fpOk hle (I1.hok.fresh hle)
end M

-- Sound5
set_option Elab.async false
set_option autoImplicit false
set_option linter.all false
set_option maxRecDepth 100000
namespace M
open PySem L2
section
variable {Γ : Gm} {Z : WX} {X : Cx} {a b c e l tg : Expr} {es : List Expr} {pos p tp : Pos} {α β δ : IE}
def JSq (K : PySem.W.Frag) (t : Bool) (a : Addr) : L2.It := if t = true then Itt K a else Itl K a
def iSqK (K : PySem.W.Frag) (tl : TE) : TI := fun σ H R => tl σ H fun x H1 => ∃ t a xs, x = .ref a ∧ SqK K t H1 a xs ∧ R (JSq K t a) H1
theorem pi_sq {tl : TE} (hl : PE X l tl) : PI X tg l (iSqK X.K tl) := by
  refine ⟨fun pins s σ H R I h => thn (hl.run pins s σ H _ I h) fun v s1 hh => ?_⟩
  obtain ⟨x, H1, I1, r1, t, a, xs, rfl, hq, q⟩ := hh
  cases r1
  have fp : ∀ b ∈ [s1.heap.objs.size], FpOk X pins H1 b := fun b hb => by
    simp at hb; subst hb
    exact I1.fpOk (Nat.le_refl _) (I1.hok.fresh (Nat.le_refl _))
  cases t
  · obtain ⟨its, rv, pl, _⟩ := I1.list hq
    exact wpAny_pyIter_list pl.isList ⟨s1.heap.objs.size, [s1.heap.objs.size], _, _, H1, rfl, I1.kept (t' := s1.toks) fun b o e => Heap.get?_push_of_some _ e, turn_list a _, ⟨_, Heap.get?_push_size _ rfl, rfl, rfl⟩, fp, q⟩
  · obtain ⟨its, rv, pl, _⟩ := I1.tuple hq
    exact wpAny_pyIter_tuple pl ⟨s1.heap.objs.size, [s1.heap.objs.size], _, _, H1, rfl, I1.kept (t' := s1.toks) fun b o e => Heap.get?_push_of_some _ e, turn_tuple a _, ⟨_, Heap.get?_push_size _ rfl, rfl, rfl⟩, fp, q⟩

/-- a source that is walked stays readable -/
def Src (Γ : Gm) (I : It) (t : Bool) (a : Addr) (ρ : Pl) (H : Hp) : Prop := ∀ ρ2 H2 s2, RelS Γ ρ2 H2 s2 → Ext0 Γ ρ H ρ2 H2 → I.guard s2 → ∃ xs, SqK Γ.K t H2 a xs ∧ RepL Γ ρ2 H2 I.items xs
theorem src {ρ : Pl} {H : Hp} {st s : Store} {x : W} {v : V} {I : It} (hS : RelS Γ ρ H st) (r : RepV Γ ρ H x v) (e : itSeq x st = .ok I s) : s = st ∧ I.guard st ∧ ∃ t a, v = .ref a ∧ Src Γ I t a ρ H := by
  unfold itSeq at e
  cases x with
  | tup ws =>
    obtain ⟨a, vs, rfl, ht, rl⟩ := r
    simp only [R.ok.injEq] at e
    obtain ⟨rfl, rfl⟩ := e
    exact ⟨rfl, trivial, true, a, rfl, fun ρ2 H2 s2 h2 x2 _ => ⟨vs, x2.tup a vs ht, rl.ext0 x2⟩⟩
  | lst ws =>
    obtain ⟨a, vs, rfl, ht, rl⟩ := r
    simp only [R.ok.injEq] at e
    obtain ⟨rfl, rfl⟩ := e
    exact ⟨rfl, trivial, false, a, rfl, fun ρ2 H2 s2 h2 x2 _ => ⟨vs, (ht.ext0 x2).seq, rl.ext0 x2⟩⟩
  | ro ws =>
    obtain ⟨a, vs, rfl, ht, rl⟩ := r
    simp only [R.ok.injEq] at e
    obtain ⟨rfl, rfl⟩ := e
    exact ⟨rfl, trivial, false, a, rfl, fun ρ2 H2 s2 h2 x2 _ => ⟨vs, (ht.ext0 x2).seq, rl.ext0 x2⟩⟩
  | loc n =>
    obtain ⟨a, rfl, ha⟩ := r
    simp only at e
    cases e1 : st[n]? with
    | none => rw [e1] at e; cases e
    | some cl =>
      rw [e1] at e
      cases cl with
      | lst ws =>
        simp only [R.ok.injEq] at e
        obtain ⟨rfl, rfl⟩ := e
        refine ⟨rfl, e1, false, a, rfl, fun ρ2 H2 s2 h2 x2 g => ?_⟩
        obtain ⟨vs, ob, rl⟩ := h2.at_ n _ a g (x2.pre n a ha)
        exact ⟨vs, .of ob, rl⟩
      | dict kvs => cases e
      | obj c fs => cases e
  | _ => cases e
theorem walks_sq {I : It} {t : Bool} {a : Addr} {ρ : Pl} {H : Hp} (h : Src Γ I t a ρ H) : Walks Γ I (JSq Γ.K t a) ρ H := by
  refine ⟨fun i ρ2 H2 s2 h2 x2 g w hw => ?_, fun ρ2 H2 s2 h2 x2 g => ?_⟩
  · obtain ⟨xs, hq, rl⟩ := h ρ2 H2 s2 h2 x2 g
    obtain ⟨v, hv, rv⟩ := rl.get hw
    cases t
    · refine ⟨⟨xs, v, hq, hv⟩, ?_⟩
      rintro x H3 ⟨rfl, k⟩
      have := k xs hq
      rw [hv] at this; cases this
      exact ⟨h2, .refl, rv⟩
    · refine ⟨⟨xs, v, hq, hv⟩, ?_⟩
      rintro x H3 ⟨rfl, k⟩
      have := k xs hq
      rw [hv] at this; cases this
      exact ⟨h2, .refl, rv⟩
  · obtain ⟨xs, hq, rl⟩ := h ρ2 H2 s2 h2 x2 g
    cases t
    · exact ⟨xs, hq, Nat.le_of_eq rl.len⟩
    · exact ⟨xs, hq, Nat.le_of_eq rl.len⟩
theorem w_seq (hK : X.K = Γ.K) (hl : PE X l (rd Γ Z α)) : PI X tg l (rdI Γ Z (iSeq α)) := by
  have h := pi_sq (tg := tg) hl
  refine ⟨fun pins s σ H R I q => h.run pins s σ H R I ?_⟩
  obtain ⟨ρ, env, st, hS, hE, q⟩ := q
  refine ⟨ρ, env, st, hS, hE, (Post.bindI q).mono ?_⟩
  rintro v H1 ⟨w, s1, ρ1, e1, hS1, x1, r1, h1⟩
  cases e2 : itSeq w s1 with
  | exc x s => unfold itSeq at e2; split at e2 <;> (try split at e2) <;> cases e2
  | stuck => rw [e2] at h1; exact h1.elim
  | ok It s2 =>
    rw [e2] at h1
    obtain ⟨rfl, g, t, a, rfl, sr⟩ := src hS1 r1 e2
    obtain ⟨xs, hq, rl⟩ := sr ρ1 H1 s2 hS1 Ext.refl.zero g
    exact ⟨t, a, xs, rfl, by rw [hK]; exact hq, by rw [hK]; exact h1 _ ρ1 H1 hS1 .refl (walks_sq sr)⟩
theorem enumFrom_get : ∀ (ws : List W) (k i : Nat), (enumFrom k ws)[i]? = (ws[i]?).map fun w => .tup [.int ((k + i : Nat) : Int), w]
  | [], k, i => by simp [enumFrom]
  | w :: ws, k, 0 => by simp [enumFrom]
  | w :: ws, k, i + 1 => by
    unfold enumFrom
    rw [List.getElem?_cons_succ, List.getElem?_cons_succ, enumFrom_get ws (k + 1) i]
    congr 1
    funext w
    have : k + 1 + i = k + (i + 1) := by omega
    rw [this]
theorem enumFrom_len : ∀ (ws : List W) (k : Nat), (enumFrom k ws).length = ws.length
  | [], _ => rfl
  | _ :: ws, k => by simp [enumFrom, enumFrom_len ws]
theorem w_enum {elts : List Expr} {kk : Nat} (hK : X.K = Γ.K) (hm : X.mg "enumerate" = none) (ha : PA X [e] (rdA Γ Z (eArgs [α]))) (hg : Gl X "enumerate" := by rfl) (hs : starEach [e] X.env = [(false, eval e X.env)] := by rfl) :
    PI X (.Tuple elts kk tp) (.Call (.Name "enumerate" p) [e] [] pos) (rdI Γ Z (iEnum α)) := by
  have h := pi_en (elts := elts) (kk := kk) (tp := tp) (p := p) (pos := pos) hm ha hg hs
  refine ⟨fun pins s σ H R I q => h.run pins s σ H R I ?_⟩
  obtain ⟨ρ, env, st, hS, hE, q⟩ := q
  refine ⟨ρ, env, st, hS, hE, ?_⟩
  unfold iEnum at q
  show Post Γ (RepL Γ) Z σ ρ H _ ((α env st).bind fun x s1 => .ok [x] s1)
  cases e0 : α env st with
  | exc x s => rw [e0] at q; exact q
  | stuck => rw [e0] at q; exact q
  | ok w s1 =>
    rw [e0] at q
    rintro vs ρ1 H1 hS1 x1 ⟨v, r, rfl, r1, rfl⟩
    cases e2 : itSeq w s1 with
    | exc x s => unfold itSeq at e2; split at e2 <;> (try split at e2) <;> cases e2
    | stuck => simp only [bind_ok, e2] at q; exact q.elim
    | ok It s2 =>
      simp only [bind_ok, e2] at q
      obtain ⟨rfl, g, t, a, rfl, sr⟩ := src hS1 r1 e2
      obtain ⟨xs, hq, rl⟩ := sr ρ1 H1 s2 hS1 Ext.refl.zero g
      refine ⟨t, a, xs, rfl, by rw [hK]; exact hq, q _ ρ1 H1 hS1 x1 ⟨fun i ρ2 H2 s3 h2 x2 g2 w2 hw => ?_, fun ρ2 H2 s3 h2 x2 g2 => ?_⟩⟩
      · obtain ⟨ys, hq2, rl2⟩ := sr ρ2 H2 s3 h2 x2 g2
        rw [enumFrom_get] at hw
        cases e3 : It.items[i]? with
        | none => rw [e3] at hw; cases hw
        | some w3 =>
          rw [e3] at hw
          obtain ⟨v3, hv3, rv3⟩ := rl2.get e3
          refine ⟨⟨ys, v3, by rw [hK]; exact hq2, hv3⟩, ?_⟩
          rintro x H3 ⟨T, y, rfl, hT, rfl, k⟩
          have := k ys (by rw [hK]; exact hq2)
          rw [hv3] at this; cases this
          cases hw
          exact ⟨h2.free hT, .free hT, T, _, rfl, .of upd_same, .cons (by simp [RepV]) (.one (rv3.ext (.free hT)))⟩
      · obtain ⟨ys, hq2, rl2⟩ := sr ρ2 H2 s3 h2 x2 g2
        exact ⟨ys, by rw [hK]; exact hq2, by rw [rl2.len, enumFrom_len]⟩
theorem zipW_get : ∀ (as bs : List W) (i : Nat) (w : W), (zipW as bs)[i]? = some w → ∃ a b, as[i]? = some a ∧ bs[i]? = some b ∧ w = .tup [a, b]
  | [], bs, i, w, h => by simp [zipW] at h
  | a :: as, [], i, w, h => by simp [zipW] at h
  | a :: as, b :: bs, 0, w, h => by simp [zipW] at h; exact ⟨a, b, rfl, rfl, h.symm⟩
  | a :: as, b :: bs, i + 1, w, h => by simp [zipW] at h; simpa using zipW_get as bs i w h
theorem zipW_len : ∀ (as bs : List W), (zipW as bs).length = min as.length bs.length
  | [], bs => by simp [zipW]
  | a :: as, [] => by simp [zipW]
  | a :: as, b :: bs => by
    simp only [zipW, List.length_cons, zipW_len as bs]
    omega
theorem w_zip {elts : List Expr} {kk : Nat} (hK : X.K = Γ.K) (hm : X.mg "zip" = none) (ha : PA X [a, b] (rdA Γ Z (eArgs [α, β]))) (hg : Gl X "zip" := by rfl) (hs : starEach [a, b] X.env = (false, eval a X.env) :: starEach [b] X.env := by rfl) (hpl : (backTo pos (starEach [b] X.env)).any (·.1) = false := by rfl) :
    PI X (.Tuple elts kk tp) (.Call (.Name "zip" p) [a, b] [] pos) (rdI Γ Z (iZip α β)) := by
  have h := pi_zi (elts := elts) (kk := kk) (tp := tp) (p := p) (pos := pos) hm ha hg hs hpl
  refine ⟨fun pins s σ H R I q => h.run pins s σ H R I ?_⟩
  obtain ⟨ρ, env, st, hS, hE, q⟩ := q
  refine ⟨ρ, env, st, hS, hE, ?_⟩
  unfold iZip at q
  show Post Γ (RepL Γ) Z σ ρ H _ ((α env st).bind fun x s1 => ((β env s1).bind fun y s2 => .ok [y] s2).bind fun xs s2 => .ok (x :: xs) s2)
  cases e0 : α env st with
  | exc x s => rw [e0] at q; exact q
  | stuck => rw [e0] at q; exact q
  | ok w0 s0 =>
    rw [e0] at q
    simp only [bind_ok] at q ⊢
    cases e0' : β env s0 with
    | exc x s => rw [e0'] at q; exact q
    | stuck => rw [e0'] at q; exact q
    | ok w1 s1 =>
      rw [e0'] at q
      simp only [bind_ok] at q ⊢
      rintro vs ρ1 H1 hS1 x1 ⟨v, _, rfl, r1, v', _, rfl, r2, rfl⟩
      cases e2 : itSeq w0 s1 with
      | exc x s => unfold itSeq at e2; split at e2 <;> (try split at e2) <;> cases e2
      | stuck => simp only [bind_ok, e2] at q; exact q.elim
      | ok It s2 =>
        obtain ⟨rfl, g, t, a, rfl, sr⟩ := src hS1 r1 e2
        cases e3 : itSeq w1 s2 with
        | exc x s => unfold itSeq at e3; split at e3 <;> (try split at e3) <;> cases e3
        | stuck => simp only [bind_ok, e2, e3] at q; exact q.elim
        | ok It' s3 =>
          obtain ⟨rfl, g', t', a', rfl, sr'⟩ := src hS1 r2 e3
          simp only [e2, e3, bind_ok] at q
          obtain ⟨xs, hq, rl⟩ := sr ρ1 H1 s3 hS1 Ext.refl.zero g
          obtain ⟨xs', hq', rl'⟩ := sr' ρ1 H1 s3 hS1 Ext.refl.zero g'
          refine ⟨t, t', a, a', xs, xs', rfl, by rw [hK]; exact hq, by rw [hK]; exact hq', q _ ρ1 H1 hS1 x1 ⟨fun i ρ2 H2 s4 h2 x2 g2 w2 hw => ?_, fun ρ2 H2 s4 h2 x2 g2 => ?_⟩⟩
          · obtain ⟨ys, hy, rly⟩ := sr ρ2 H2 s4 h2 x2 g2.1
            obtain ⟨ys', hy', rly'⟩ := sr' ρ2 H2 s4 h2 x2 g2.2
            obtain ⟨wa, wb, ha1, hb1, rfl⟩ := zipW_get _ _ _ _ hw
            obtain ⟨va, hva, rva⟩ := rly.get ha1
            obtain ⟨vb, hvb, rvb⟩ := rly'.get hb1
            refine ⟨⟨ys, ys', va, vb, by rw [hK]; exact hy, by rw [hK]; exact hy', hva, hvb⟩, ?_⟩
            rintro x H3 ⟨T, y1, y2, rfl, hT, rfl, k1, k2⟩
            have := k1 ys (by rw [hK]; exact hy)
            rw [hva] at this; cases this
            have := k2 ys' (by rw [hK]; exact hy')
            rw [hvb] at this; cases this
            exact ⟨h2.free hT, .free hT, T, _, rfl, .of upd_same, .cons (rva.ext (.free hT)) (.one (rvb.ext (.free hT)))⟩
          · obtain ⟨ys, hy, rly⟩ := sr ρ2 H2 s4 h2 x2 g2.1
            obtain ⟨ys', hy', rly'⟩ := sr' ρ2 H2 s4 h2 x2 g2.2
            exact ⟨ys, ys', by rw [hK]; exact hy, by rw [hK]; exact hy', by rw [rly.len, rly'.len, zipW_len]⟩
theorem upTo_get (lo : Int) (n i : Nat) (w : W) (h : (upTo lo n)[i]? = some w) : i < n ∧ w = .int (lo + (i : Int)) := by
  unfold upTo at h
  rw [List.getElem?_map] at h
  cases e : (List.range n)[i]? with
  | none => rw [e] at h; cases h
  | some k =>
    rw [e] at h
    have := List.getElem?_eq_some_iff.mp e
    obtain ⟨hl, hk⟩ := this
    simp at hl hk
    subst hk
    cases h
    exact ⟨hl, rfl⟩
theorem walks_rng (lo : Int) (n : Nat) (ρ : Pl) (H : Hp) : Walks Γ ⟨upTo lo n, fun _ => True⟩ (Itr lo n) ρ H :=
  ⟨fun i ρ2 H2 s2 h2 x2 g w hw => by
    obtain ⟨hi, rfl⟩ := upTo_get lo n i w hw
    exact ⟨hi, fun x H3 ⟨e1, e2⟩ => by subst e1; subst e2; exact ⟨h2, .refl, rfl⟩⟩, fun ρ2 H2 s2 h2 x2 g => by simp [Itr, upTo]⟩
theorem w_range1 (hm : X.mg "range" = none) (ha : PA X [e] (rdA Γ Z (eArgs [α]))) (hg : Gl X "range" := by rfl) (hs : starEach [e] X.env = [(false, eval e X.env)] := by rfl) : PI X tg (.Call (.Name "range" p) [e] [] pos) (rdI Γ Z (iRange [α])) := by
  have h := pi_range1 (tg := tg) (p := p) (pos := pos) hg hm ha hs
  refine ⟨fun pins s σ H R I q => h.run pins s σ H R I ?_⟩
  obtain ⟨ρ, env, st, hS, hE, q⟩ := q
  refine ⟨ρ, env, st, hS, hE, (Post.bindI q).mono ?_⟩
  rintro v H1 ⟨ws, s1, ρ1, e1, hS1, x1, r1, h1⟩
  unfold itRange at h1
  split at h1
  · rename_i j
    obtain ⟨v, _, rfl, rfl, rfl⟩ := r1
    split at h1
    · rename_i hc
      exact ⟨j, rfl, hc.1, hc.2, h1 _ ρ1 H1 hS1 .refl (walks_rng 0 _ _ _)⟩
    · exact h1.elim
  · exfalso
    have len : ∀ env st ws s, eArgs [α] env st = .ok ws s → ws.length = 1 := by
      intro env st ws s e
      simp only [eArgs] at e
      cases h1 : α env st with
      | ok w s1 => rw [h1] at e; simp at e; obtain ⟨rfl, _⟩ := e; rfl
      | exc x s1 => rw [h1] at e; cases e
      | stuck => rw [h1] at e; cases e
    have := len _ _ _ _ e1
    simp at this
  · exact h1.elim
theorem w_range2 (hm : X.mg "range" = none) (ha : PA X [a, b] (rdA Γ Z (eArgs [α, β]))) (hg : Gl X "range" := by rfl) (hs : starEach [a, b] X.env = [(false, eval a X.env), (false, eval b X.env)] := by rfl) (hs2 : starEach [b] X.env = [(false, eval b X.env)] := by rfl) : PI X tg (.Call (.Name "range" p) [a, b] [] pos) (rdI Γ Z (iRange [α, β])) := by
  have h := pi_range2 (tg := tg) (p := p) (pos := pos) hg hm ha hs hs2
  refine ⟨fun pins s σ H R I q => h.run pins s σ H R I ?_⟩
  obtain ⟨ρ, env, st, hS, hE, q⟩ := q
  refine ⟨ρ, env, st, hS, hE, (Post.bindI q).mono ?_⟩
  rintro v H1 ⟨ws, s1, ρ1, e1, hS1, x1, r1, h1⟩
  unfold itRange at h1
  split at h1
  · exfalso
    have len : ∀ env st ws s, eArgs [α, β] env st = .ok ws s → ws.length = 2 := by
      intro env st ws s e
      simp only [eArgs] at e
      cases h1 : α env st with
      | ok w s1 =>
        rw [h1] at e; simp at e
        cases h2 : β env s1 with
        | ok w s2 => rw [h2] at e; simp at e; obtain ⟨rfl, _⟩ := e; rfl
        | exc x s1 => rw [h2] at e; cases e
        | stuck => rw [h2] at e; cases e
      | exc x s1 => rw [h1] at e; cases e
      | stuck => rw [h1] at e; cases e
    have := len _ _ _ _ e1
    simp at this
  · rename_i i j
    obtain ⟨v, _, rfl, rfl, v', _, rfl, rfl, rfl⟩ := r1
    split at h1
    · rename_i hc
      exact ⟨i, j, rfl, ⟨hc.1.1, hc.1.2, hc.2.1, hc.2.2⟩, h1 _ ρ1 H1 hS1 .refl (walks_rng i _ _ _)⟩
    · exact h1.elim
  · exact h1.elim
end
end M

-- Sound6
set_option Elab.async false
set_option autoImplicit false
set_option linter.all false
set_option maxRecDepth 100000
namespace M
open PySem L2
section
variable {Γ : Gm} {ρ : Pl} {H : Hp} {st : Store}
/-! ### data -/
mutual
def toP : W → PyData
  | .non => .none
  | .bl b => .bool b
  | .int i => .int i
  | .str s => .str ⟨s.toArray⟩
  | .tup ws => .tuple (toPL ws)
  | .lst ws => .list (toPL ws)
  | .ro ws => .list (toPL ws)
  | .loc _ => .none
def toPL : List W → List PyData
  | [] => []
  | w :: ws => toP w :: toPL ws
end
mutual
theorem dp_of : ∀ {w : W} {v : V} {n : Nat}, RepV Γ ρ H w v → w.okD n = true → Dp Γ.K H v (toP w)
  | .non, _, _, h, _ => by cases h; exact .non
  | .bl b, _, _, h, _ => by cases h; exact .bl b
  | .int i, _, _, h, _ => by cases h; exact .int i
  | .str s, _, _, h, _ => by obtain ⟨x, rfl, rfl⟩ := h; exact .str x
  | .tup ws, _, 0, _, k => by simp [W.okD] at k
  | .lst ws, _, 0, _, k => by simp [W.okD] at k
  | .ro ws, _, 0, _, k => by simp [W.okD] at k
  | .tup ws, _, n + 1, h, k => by
    obtain ⟨a, vs, rfl, t, r⟩ := h
    exact .tup t (dpl_of r (by simpa [W.okD] using k))
  | .lst ws, _, n + 1, h, k => by
    obtain ⟨a, vs, rfl, t, r⟩ := h
    exact .lst t.seq (dpl_of r (by simpa [W.okD] using k))
  | .ro ws, _, n + 1, h, k => by
    obtain ⟨a, vs, rfl, t, r⟩ := h
    exact .lst t.seq (dpl_of r (by simpa [W.okD] using k))
  | .loc n, _, _, _, k => by simp [W.okD] at k
theorem dpl_of : ∀ {ws : List W} {vs : List V} {n : Nat}, RepL Γ ρ H ws vs → okDL ws n = true → DpAll Γ.K H vs (toPL ws)
  | [], _, _, h, _ => by cases h; exact .nil
  | w :: ws, _, n, h, k => by
    obtain ⟨v, r, rfl, a, b⟩ := h
    simp [okDL] at k
    exact .cons (dp_of a k.1) (dpl_of b k.2)
end
mutual
theorem shp : ∀ {w : W} {n : Nat}, w.okD n = true → (toP w).canLay0 = true ∧ (toP w).depth ≤ n
  | .non, _, _ => by simp [toP, PyData.canLay0, PyData.depth]
  | .bl b, _, _ => by simp [toP, PyData.canLay0, PyData.depth]
  | .int i, _, _ => by simp [toP, PyData.canLay0, PyData.depth]
  | .str s, _, h => by
    simp only [toP, PyData.canLay0, PyData.depth, PyData.strOk]
    simp [W.okD] at h
    exact ⟨by simpa using h, Nat.zero_le _⟩
  | .tup ws, 0, k => by simp [W.okD] at k
  | .lst ws, 0, k => by simp [W.okD] at k
  | .ro ws, 0, k => by simp [W.okD] at k
  | .tup ws, n + 1, k => by
    obtain ⟨h1, h2⟩ := shpL (ws := ws) (n := n) (by simpa [W.okD] using k)
    simp only [toP, PyData.canLay0, PyData.depth]
    exact ⟨h1, by omega⟩
  | .lst ws, n + 1, k => by
    obtain ⟨h1, h2⟩ := shpL (ws := ws) (n := n) (by simpa [W.okD] using k)
    simp only [toP, PyData.canLay0, PyData.depth]
    exact ⟨h1, by omega⟩
  | .ro ws, n + 1, k => by
    obtain ⟨h1, h2⟩ := shpL (ws := ws) (n := n) (by simpa [W.okD] using k)
    simp only [toP, PyData.canLay0, PyData.depth]
    exact ⟨h1, by omega⟩
  | .loc n, _, k => by simp [W.okD] at k
theorem shpL : ∀ {ws : List W} {n : Nat}, okDL ws n = true → PyData.canLayAll0 (toPL ws) = true ∧ PyData.depthAll (toPL ws) ≤ n
  | [], _, _ => by simp [toPL, PyData.canLayAll0, PyData.depthAll]
  | w :: ws, n, k => by
    simp [okDL] at k
    obtain ⟨a1, a2⟩ := shp k.1
    obtain ⟨b1, b2⟩ := shpL k.2
    simp only [toPL, PyData.canLayAll0, PyData.depthAll, a1, b1]
    exact ⟨rfl, Nat.max_le.mpr ⟨a2, b2⟩⟩
end
theorem shaped_of {w : W} (h : w.okD 64 = true) : SeqAt.shaped (toP w) = true := by
  obtain ⟨h1, h2⟩ := shp h
  unfold SeqAt.shaped
  simp [h1, h2]
theorem str_mk (a b : List Nat) : ((⟨a.toArray⟩ : Str) == (⟨b.toArray⟩ : Str)) = (a == b) := by
  rw [Bool.eq_iff_iff]
  simp
mutual
theorem eqv_of : ∀ {a b : W} {n m : Nat}, a.okD n = true → b.okD m = true → PyData.eqv (toP a) (toP b) = a.eqv b
  | .loc _, _, _, _, h, _ => by simp [W.okD] at h
  | .non, b, _, _, _, k => by cases b <;> first | rfl | (simp [W.okD] at k)
  | .bl x, b, _, _, _, k => by cases b <;> first | rfl | (simp [W.okD] at k)
  | .int x, b, _, _, _, k => by cases b <;> first | rfl | (simp [W.okD] at k)
  | .str x, b, _, _, _, k => by
    cases b with
    | str y => simp only [toP, PyData.eqv, W.eqv]; exact str_mk x y
    | loc _ => simp [W.okD] at k
    | _ => rfl
  | .tup x, b, 0, _, h, _ => by simp [W.okD] at h
  | .lst x, b, 0, _, h, _ => by simp [W.okD] at h
  | .ro x, b, 0, _, h, _ => by simp [W.okD] at h
  | .tup x, b, n + 1, m, h, k => by
    cases b with
    | tup y =>
      cases m with
      | zero => simp [W.okD] at k
      | succ m => simp only [toP, PyData.eqv, W.eqv]; exact eqvL_of (by simpa [W.okD] using h) (by simpa [W.okD] using k)
    | loc _ => simp [W.okD] at k
    | _ => rfl
  | .lst x, b, n + 1, m, h, k => by
    cases b with
    | lst y =>
      cases m with
      | zero => simp [W.okD] at k
      | succ m => simp only [toP, PyData.eqv, W.eqv]; exact eqvL_of (by simpa [W.okD] using h) (by simpa [W.okD] using k)
    | ro y =>
      cases m with
      | zero => simp [W.okD] at k
      | succ m => simp only [toP, PyData.eqv, W.eqv]; exact eqvL_of (by simpa [W.okD] using h) (by simpa [W.okD] using k)
    | loc _ => simp [W.okD] at k
    | _ => rfl
  | .ro x, b, n + 1, m, h, k => by
    cases b with
    | lst y =>
      cases m with
      | zero => simp [W.okD] at k
      | succ m => simp only [toP, PyData.eqv, W.eqv]; exact eqvL_of (by simpa [W.okD] using h) (by simpa [W.okD] using k)
    | ro y =>
      cases m with
      | zero => simp [W.okD] at k
      | succ m => simp only [toP, PyData.eqv, W.eqv]; exact eqvL_of (by simpa [W.okD] using h) (by simpa [W.okD] using k)
    | loc _ => simp [W.okD] at k
    | _ => rfl
theorem eqvL_of : ∀ {a b : List W} {n m : Nat}, okDL a n = true → okDL b m = true → PyData.eqvAll (toPL a) (toPL b) = eqvL a b
  | [], [], _, _, _, _ => by simp [toPL, PyData.eqvAll, eqvL]
  | [], _ :: _, _, _, _, _ => by simp [toPL, PyData.eqvAll, eqvL]
  | _ :: _, [], _, _, _, _ => by simp [toPL, PyData.eqvAll, eqvL]
  | x :: xs, y :: ys, n, m, h, k => by
    simp [okDL] at h k
    simp only [toPL, PyData.eqvAll, eqvL]
    rw [eqv_of h.1 k.1, eqvL_of h.2 k.2]
end
/-- a store's list as data -/
theorem dp_look {w : W} {v : V} (hS : RelS Γ ρ H st) (r : RepV Γ ρ H w v) (k : (look st w).okD 64 = true) : Dp Γ.K H v (toP (look st w)) := by
  unfold look at k ⊢
  cases w with
  | loc n =>
    simp only at k ⊢
    cases e : st[n]? with
    | none => rw [e] at k; simp [W.okD] at k
    | some c =>
      rw [e] at k
      cases c with
      | lst ws =>
        simp only at k ⊢
        obtain ⟨a, rfl, ha⟩ := r
        obtain ⟨vs, ob, rl⟩ := hS.at_ n _ a e ha
        exact .lst (.of ob) (dpl_of rl (n := 63) (by simpa [W.okD] using k))
      | dict _ => simp [W.okD] at k
      | obj _ _ => simp [W.okD] at k
  | _ => exact dp_of r k
theorem sem_eq : SemOp Γ (rEqD Γ.K) opEq := by
  intro Z σ ρ H st x y xv yv Q hS rx ry h
  unfold opEq at h
  split at h
  · rename_i c
    exact ⟨_, _, dp_look hS rx c.1, dp_look hS ry c.2, shaped_of c.1, shaped_of c.2, by rw [eqv_of c.1 c.2]; exact h _ ρ H hS .refl rfl⟩
  · exact h.elim
theorem sem_ne : SemOp Γ (rNeD Γ.K) opNe := by
  intro Z σ ρ H st x y xv yv Q hS rx ry h
  unfold opNe at h
  split at h
  · rename_i c
    exact ⟨_, _, dp_look hS rx c.1, dp_look hS ry c.2, shaped_of c.1, shaped_of c.2, by rw [eqv_of c.1 c.2]; exact h _ ρ H hS .refl rfl⟩
  · exact h.elim

/-! ### ints -/
theorem sem_I {g : Int → Int → W} {gv : Int → Int → V} (hg : ∀ i j ρ H, RepV Γ ρ H (g i j) (gv i j)) : SemOp Γ (rI0 gv) (opI g) := by
  intro Z σ ρ H st x y xv yv Q hS rx ry h
  unfold opI at h
  cases x with
  | int i =>
    cases y with
    | int j => cases rx; cases ry; exact ⟨i, j, rfl, rfl, h _ ρ H hS .refl (hg i j ρ H)⟩
    | _ => exact h.elim
  | _ => exact h.elim
theorem sem_Ic {c : Int → Int → Prop} {C : Int → Int → Prop} {g : Int → Int → W} {gv : Int → Int → V} (hc : ∀ i j, c i j → C i j) (hg : ∀ i j ρ H, c i j → RepV Γ ρ H (g i j) (gv i j)) : SemOp Γ (rI C gv) (opIc c g) := by
  intro Z σ ρ H st x y xv yv Q hS rx ry h
  unfold opIc at h
  cases x with
  | int i =>
    cases y with
    | int j =>
      cases rx; cases ry
      by_cases k : c i j
      · simp only [if_pos k] at h
        exact ⟨i, j, rfl, rfl, hc i j k, h _ ρ H hS .refl (hg i j ρ H k)⟩
      · simp only [if_neg k] at h; exact h.elim
    | _ => exact h.elim
  | _ => exact h.elim
theorem sem_sub : SemOp Γ (rI0 fun i j => .int (i - j)) opSub := sem_I fun _ _ _ _ => rfl
theorem mul_any {X : Cx} : OpR X (binaryOp .Mult) (rI (fun i j => (-(2 ^ 64) < i ∧ i < 2 ^ 64) ∨ (-(2 ^ 64) < j ∧ j < 2 ^ 64) ∨ i.natAbs.log2 + j.natAbs.log2 < 1000000) fun i j => .int (i * j)) := fun pins s σ H x y v u Q I rx ry h => (op_mul.or op_mulW) pins s σ H x y v u Q I rx ry (by
  obtain ⟨i, j, e1, e2, c, q⟩ := h
  rcases c with c | c | c
  · exact .inl ⟨i, j, e1, e2, .inl c, q⟩
  · exact .inl ⟨i, j, e1, e2, .inr c, q⟩
  · exact .inr ⟨i, j, e1, e2, c, q⟩)
theorem sem_mul : SemOp Γ (rI (fun i j => (-(2 ^ 64) < i ∧ i < 2 ^ 64) ∨ (-(2 ^ 64) < j ∧ j < 2 ^ 64) ∨ i.natAbs.log2 + j.natAbs.log2 < 1000000) fun i j => .int (i * j)) opMul := sem_Ic (fun _ _ h => h) fun _ _ _ _ _ => rfl
theorem sem_div : SemOp Γ (rI CDivW fun i j => .int (i / j)) opDiv := sem_Ic (fun _ _ h => h) fun _ _ _ _ _ => rfl
theorem sem_mod : SemOp Γ (rI (fun _ j => 0 < j) fun i j => .int (i % j)) opMod := sem_Ic (fun _ _ h => h) fun _ _ _ _ _ => rfl
theorem sem_pow : SemOp Γ (rI CPow fun i j => .int (i ^ j.toNat)) opPow := sem_Ic (fun _ _ h => h) fun _ _ _ _ _ => rfl
theorem sem_shl : SemOp Γ (rI CPow fun i j => .int (i * 2 ^ j.toNat)) opShl := sem_Ic (fun _ _ h => h) fun _ _ _ _ _ => rfl
theorem sem_shr : SemOp Γ (rI (fun _ j => 0 ≤ j) fun i j => .int (i / 2 ^ j.toNat)) opShr := sem_Ic (fun _ _ h => h) fun _ _ _ _ _ => rfl
theorem sem_lt : SemOp Γ (rI0 fun i j => .bl (decide (i < j))) opLt := sem_I fun _ _ _ _ => rfl
theorem sem_le : SemOp Γ (rI0 fun i j => .bl (decide (i ≤ j))) opLe := sem_I fun _ _ _ _ => rfl
theorem sem_gt : SemOp Γ (rI0 fun i j => .bl (decide (j < i))) opGt := sem_I fun _ _ _ _ => rfl
theorem sem_ge : SemOp Γ (rI0 fun i j => .bl (decide (j ≤ i))) opGe := sem_I fun _ _ _ _ => rfl
theorem rI_0 {C : Int → Int → Prop} {g : Int → Int → V} {x y : V} {H : Hp} {Q : VK} (h : rI C g x y H Q) : rI0 g x y H Q := by
  obtain ⟨i, j, e1, e2, _, q⟩ := h
  exact ⟨i, j, e1, e2, q⟩
theorem and_nn {i j : Int} (hi : 0 ≤ i) (hj : 0 ≤ j) : Builtin.bitAnd i j = ((i.toNat &&& j.toNat : Nat) : Int) := by
  unfold Builtin.bitAnd
  rw [decide_eq_true hi, decide_eq_true hj]
theorem not_neg {i : Int} (hi : 0 ≤ i) : decide (0 ≤ Builtin.bitNot i) = false := by
  unfold Builtin.bitNot
  exact decide_eq_false (by omega)
theorem not_not (i : Int) : Builtin.bitNot (Builtin.bitNot i) = i := by
  unfold Builtin.bitNot
  omega
theorem or_nn {i j : Int} (hi : 0 ≤ i) (hj : 0 ≤ j) : Builtin.bitOr i j = ((i.toNat ||| j.toNat : Nat) : Int) := by
  unfold Builtin.bitOr Builtin.bitAnd
  rw [not_neg hi, not_neg hj]
  simp only [not_not]
theorem xor_nat (m n : Nat) : (m ^^^ n) + (m &&& n) = m ||| n := by
  have h : (m ^^^ n) &&& (m &&& n) = 0 := by
    apply Nat.eq_of_testBit_eq
    intro i
    simp only [Nat.testBit_and, Nat.testBit_xor, Nat.zero_testBit]
    cases m.testBit i <;> cases n.testBit i <;> rfl
  have h2 : (m ^^^ n) ||| (m &&& n) = m ||| n := by
    apply Nat.eq_of_testBit_eq
    intro i
    simp only [Nat.testBit_and, Nat.testBit_xor, Nat.testBit_or]
    cases m.testBit i <;> cases n.testBit i <;> rfl
  rw [← h2]
  exact add_or _ _ h
where
  add_or : ∀ a b : Nat, a &&& b = 0 → a + b = a ||| b := by
    intro a
    induction a using Nat.strongRecOn with
    | _ a ih =>
      intro b h
      by_cases ha : a = 0
      · subst ha; simp
      · have hd : (a / 2) &&& (b / 2) = 0 := by
          rw [← Nat.and_div_two, h]
        have hr := ih (a / 2) (by omega) (b / 2) hd
        have hm : ¬ (a % 2 = 1 ∧ b % 2 = 1) := by
          rintro ⟨h1, h2⟩
          have := congrArg (fun x => x % 2) h
          simp only [Nat.and_mod_two_pow (n := 1), Nat.pow_one, h1, h2] at this
          have h3 : (a &&& b) % 2 = 1 := by
            have := Nat.and_mod_two_pow (a := a) (b := b) (n := 1)
            simp only [Nat.pow_one, h1, h2] at this
            simpa using this
          rw [h] at h3; simp at h3
        have e1 : (a ||| b) / 2 = (a / 2) ||| (b / 2) := Nat.or_div_two
        have e2 : (a ||| b) % 2 = (a % 2) ||| (b % 2) := by
          have := Nat.or_mod_two_pow (a := a) (b := b) (n := 1)
          simpa using this
        have a2 : a % 2 = 0 ∨ a % 2 = 1 := by omega
        have b2 : b % 2 = 0 ∨ b % 2 = 1 := by omega
        have e3 : (a ||| b) % 2 = a % 2 + b % 2 := by
          rw [e2]
          rcases a2 with p | p <;> rcases b2 with q | q <;> rw [p, q] <;> first | rfl | exact absurd ⟨p, q⟩ hm
        omega
theorem xor_nn {i j : Int} (hi : 0 ≤ i) (hj : 0 ≤ j) : Builtin.bitXor i j = ((i.toNat ^^^ j.toNat : Nat) : Int) := by
  unfold Builtin.bitXor
  rw [or_nn hi hj, and_nn hi hj, ← xor_nat]
  omega
theorem sem_and : SemOp Γ (rI0 fun i j => .int (Builtin.bitAnd i j)) opAnd := fun Z σ ρ H st x y xv yv Q hS rx ry h => rI_0 (sem_Ic (C := fun _ _ => True) (fun _ _ _ => trivial) (fun i j ρ H c => by rw [and_nn c.1 c.2]; rfl) Z σ ρ H st x y xv yv Q hS rx ry h)
theorem sem_or : SemOp Γ (rI0 fun i j => .int (Builtin.bitOr i j)) opOr := fun Z σ ρ H st x y xv yv Q hS rx ry h => rI_0 (sem_Ic (C := fun _ _ => True) (fun _ _ _ => trivial) (fun i j ρ H c => by rw [or_nn c.1 c.2]; rfl) Z σ ρ H st x y xv yv Q hS rx ry h)
theorem sem_xor : SemOp Γ (rI0 fun i j => .int (Builtin.bitXor i j)) opXor := fun Z σ ρ H st x y xv yv Q hS rx ry h => rI_0 (sem_Ic (C := fun _ _ => True) (fun _ _ _ => trivial) (fun i j ρ H c => by rw [xor_nn c.1 c.2]; rfl) Z σ ρ H st x y xv yv Q hS rx ry h)
end
end M

-- Sound7
set_option Elab.async false
set_option autoImplicit false
set_option linter.all false
set_option maxRecDepth 100000
namespace M
open PySem L2
section
variable {Γ : Gm} {Z : WX} {X : Cx} {a b c e o : Expr} {es : List Expr} {pos p tp : Pos} {α β δ : IE}
theorem seqOf_lst {ρ : Pl} {H : Hp} {st : Store} {x : W} {v : V} {ws : List W} (hS : RelS Γ ρ H st) (r : RepV Γ ρ H x v) (e : seqOf st x = some ws) : ∃ t a vs, v = .ref a ∧ SqK Γ.K t H a vs ∧ RepL Γ ρ H ws vs ∧ (t = true → ∃ us, x = .tup us) := by
  unfold seqOf at e
  cases x with
  | tup us => cases e; obtain ⟨a, vs, rfl, t, rl⟩ := r; exact ⟨true, a, vs, rfl, t, rl, fun _ => ⟨_, rfl⟩⟩
  | lst us => cases e; obtain ⟨a, vs, rfl, t, rl⟩ := r; exact ⟨false, a, vs, rfl, t.seq, rl, fun z => by cases z⟩
  | ro us => cases e; obtain ⟨a, vs, rfl, t, rl⟩ := r; exact ⟨false, a, vs, rfl, t.seq, rl, fun z => by cases z⟩
  | loc n =>
    simp only at e
    obtain ⟨a, rfl, ha⟩ := r
    cases e1 : st[n]? with
    | none => rw [e1] at e; cases e
    | some cl =>
      rw [e1] at e
      cases cl with
      | lst us => cases e; obtain ⟨vs, ob, rl⟩ := hS.at_ n _ a e1 ha; exact ⟨false, a, vs, rfl, .of ob, rl, fun z => by cases z⟩
      | dict _ => cases e
      | obj _ _ => cases e
  | _ => cases e
theorem lstOf_ob {ρ : Pl} {H : Hp} {st : Store} {x : W} {v : V} {ws : List W} (hS : RelS Γ ρ H st) (r : RepV Γ ρ H x v) (e : lstOf st x = some ws) : ∃ a vs, v = .ref a ∧ H a = some (.lst vs) ∧ RepL Γ ρ H ws vs := by
  unfold lstOf at e
  cases x with
  | lst us => cases e; obtain ⟨a, vs, rfl, t, rl⟩ := r; exact ⟨a, vs, rfl, t.1, rl⟩
  | loc n =>
    simp only at e
    obtain ⟨a, rfl, ha⟩ := r
    cases e1 : st[n]? with
    | none => rw [e1] at e; cases e
    | some cl =>
      rw [e1] at e
      cases cl with
      | lst us => cases e; obtain ⟨vs, ob, rl⟩ := hS.at_ n _ a e1 ha; exact ⟨a, vs, rfl, ob, rl⟩
      | dict _ => cases e
      | obj _ _ => cases e
  | _ => cases e
/-! ### + -/
theorem add_any : OpR X (binaryOp .Add) (fun x y H Q => rI0 (fun i j => .int (i + j)) x y H Q ∨ (∃ i j, x = .str i ∧ y = .str j ∧ i.length + j.length ≤ sizeLine ∧ Q (.str (i ++ j)) H) ∨ rCatA X.K x y H Q ∨ rCat x y H Q) :=
  op_add.or (op_add_str.or (op_catA.or op_cat))
theorem cps_app (a b : Str) : (a ++ b).cps.toList = a.cps.toList ++ b.cps.toList := by
  show (a.cps ++ b.cps).toList = _
  simp
theorem cps_len (a : Str) : a.length = a.cps.toList.length := by
  show a.cps.size = _
  simp
theorem sem_add : SemOp Γ (fun x y H Q => rI0 (fun i j => .int (i + j)) x y H Q ∨ (∃ i j, x = .str i ∧ y = .str j ∧ i.length + j.length ≤ sizeLine ∧ Q (.str (i ++ j)) H) ∨ rCatA Γ.K x y H Q ∨ rCat x y H Q) opAdd := by
  intro Z σ ρ H st x y xv yv Q hS rx ry h
  unfold opAdd at h
  split at h
  · cases rx; cases ry; exact .inl ⟨_, _, rfl, rfl, h _ ρ H hS .refl rfl⟩
  · rename_i s1 s2
    obtain ⟨x1, rfl, rfl⟩ := rx
    obtain ⟨x2, rfl, rfl⟩ := ry
    split at h
    · rename_i hz
      exact .inr (.inl ⟨x1, x2, rfl, rfl, by rw [cps_len, cps_len]; exact hz, h _ ρ H hS .refl ⟨x1 ++ x2, rfl, cps_app _ _⟩⟩)
    · exact h.elim
  · rename_i as bs
    obtain ⟨a, vs, rfl, t1, r1⟩ := rx
    obtain ⟨b, us, rfl, t2, r2⟩ := ry
    split at h
    · rename_i hz
      refine .inr (.inr (.inl ⟨a, b, vs, us, rfl, rfl, t1, t2, by rw [r1.len, r2.len]; exact hz, fun e => ?_, fun e1 e2 => ?_, fun e1 e2 p hp => ?_⟩))
      · subst e
        have : as = [] := List.length_eq_zero_iff.mp (by rw [← r1.len]; rfl)
        subst this
        exact h _ ρ H hS .refl ⟨b, us, rfl, t2, r2⟩
      · subst e2
        have : bs = [] := List.length_eq_zero_iff.mp (by rw [← r2.len]; rfl)
        subst this
        exact h _ ρ H hS .refl ⟨a, vs, rfl, t1, by simpa using r1⟩
      · exact h _ ρ _ (hS.free hp) (.free hp) ⟨p, vs ++ us, rfl, .of upd_same, (r1.app r2).ext (.free hp)⟩
    · exact h.elim
  · split at h
    · rename_i as bs e1 e2
      obtain ⟨a, vs, rfl, o1, r1⟩ := lstOf_ob hS rx e1
      obtain ⟨b, us, rfl, o2, r2⟩ := lstOf_ob hS ry e2
      split at h
      · rename_i hz
        refine .inr (.inr (.inr ⟨a, b, vs, us, rfl, rfl, o1, o2, by rw [r1.len, r2.len]; exact hz, fun p hp => ?_⟩))
        exact h _ ρ _ (hS.free hp) (.free hp) ⟨p, vs ++ us, rfl, ⟨upd_same, hS.new_ni hp, hS.new_no hp⟩, (r1.app r2).ext (.free hp)⟩
      · exact h.elim
    · exact h.elim
theorem l_cat (ha : PE X a (rd Γ Z α)) (hb : PE X b (rd Γ Z β)) : PE X (.BinOp a .Add b pos) (rdL Γ Z (lCat α β)) := by
  refine PE.imp (pe_op op_cat ha hb) ?_
  rintro σ H Q ⟨ρ, env, st, hS, hE, h⟩
  refine ⟨ρ, env, st, hS, hE, (Post.bindL hS h).mono ?_⟩
  rintro v H1 ⟨w, s1, ρ1, e1, hS1, x1, r1, h1⟩
  refine ⟨ρ1, env, s1, hS1, hE.ext x1, (Post.bindL hS1 h1).mono ?_⟩
  rintro u H2 ⟨w2, s2, ρ2, e2, hS2, x2, r2, h2⟩
  split at h2
  · rename_i as bs e3 e4
    obtain ⟨a, vs, rfl, o1, q1⟩ := lstOf_ob hS2 (r1.ext x2) e3
    obtain ⟨b, us, rfl, o2, q2⟩ := lstOf_ob hS2 r2 e4
    split at h2
    · rename_i hz
      refine ⟨a, b, vs, us, rfl, rfl, o1, o2, by rw [q1.len, q2.len]; exact hz, fun p hp => ?_⟩
      exact h2 p _ ρ2 _ (Fresh.of hS2 hp (q1.app q2))
    · exact h2.elim
  · exact h2.elim
/-! ### in, is -/
theorem eqV_W {ρ : Pl} {H : Hp} {x y : W} {xv yv : V} (rx : RepV Γ ρ H x xv) (ry : RepV Γ ρ H y yv) (fx : x.flat = true) (fy : y.flat = true) : eqV xv yv = x.eqv y ∧ flatV xv = true := by
  cases x <;> simp [W.flat] at fx <;> cases y <;> simp [W.flat] at fy
  all_goals
    simp only [RepV] at rx ry
  all_goals (try subst rx) <;> (try subst ry)
  all_goals (try obtain ⟨x1, rfl, rfl⟩ := rx) <;> (try obtain ⟨x2, rfl, rfl⟩ := ry)
  all_goals (refine ⟨?_, rfl⟩)
  all_goals first
    | rfl
    | (simp only [eqV, W.eqv]; rw [Bool.eq_iff_iff]; simp; constructor; (intro h; rw [h]); (intro h; cases x1; cases x2; congr 1; exact Array.toList_inj.mp h))
    | (simp only [eqV, W.eqv]; rw [Bool.eq_iff_iff]; simp; constructor; (intro h; rw [h]); (intro h; cases x1; cases x2; simp_all))
    | (simp only [eqV, W.eqv]; rw [Bool.eq_iff_iff]; simp)
theorem flat_V {ρ : Pl} {H : Hp} {x : W} {xv : V} (rx : RepV Γ ρ H x xv) (fx : x.flat = true) : flatV xv = true := (eqV_W rx rx fx fx).2
theorem any_V {ρ : Pl} {H : Hp} {x : W} {xv : V} (rx : RepV Γ ρ H x xv) (fx : x.flat = true) : ∀ {ws : List W} {vs : List V}, RepL Γ ρ H ws vs → ws.all W.flat = true → inV xv vs = (ws.any fun y => y.eqv x) ∧ vs.all flatV = true
  | [], _, h, _ => by cases h; exact ⟨rfl, rfl⟩
  | w :: ws, _, h, k => by
    obtain ⟨v, r, rfl, a, b⟩ := h
    simp only [List.all_cons, Bool.and_eq_true] at k
    obtain ⟨h1, h2⟩ := any_V rx fx b k.2
    obtain ⟨g1, g2⟩ := eqV_W a rx k.1 fx
    unfold inV at h1 ⊢
    simp only [List.any_cons, List.all_cons, g1, g2, h1, h2]
    simp
theorem sem_in (neg : Bool) : SemOp Γ (rIn Γ.K neg) (opIn neg) := by
  intro Z σ ρ H st x y xv yv Q hS rx ry h
  unfold opIn at h
  cases e : seqOf st y with
  | none => rw [e] at h; exact h.elim
  | some ws =>
    simp only [e] at h
    obtain ⟨t, a, vs, rfl, hq, rl, _⟩ := seqOf_lst hS ry e
    split at h
    · rename_i hc
      obtain ⟨h1, h2⟩ := any_V rx hc.1 rl hc.2
      refine ⟨a, vs, rfl, by cases t; exact .inl hq; exact .inr hq, flat_V rx hc.1, h2, ?_⟩
      rw [h1]
      exact h _ ρ H hS .refl rfl
    · exact h.elim
theorem non_iff {ρ : Pl} {H : Hp} {x : W} {xv : V} (rx : RepV Γ ρ H x xv) : decide (xv = .non) = x.isNon := by
  cases x with
  | non => cases rx; rfl
  | bl b => cases rx; rfl
  | int i => cases rx; rfl
  | str s => obtain ⟨x, rfl, _⟩ := rx; rfl
  | tup ws => obtain ⟨a, vs, rfl, _⟩ := rx; rfl
  | lst ws => obtain ⟨a, vs, rfl, _⟩ := rx; rfl
  | ro ws => obtain ⟨a, vs, rfl, _⟩ := rx; rfl
  | loc n => obtain ⟨a, rfl, _⟩ := rx; rfl
theorem sem_isN : SemOp Γ (fun x y H Q => y = .non ∧ Q (.bl (decide (x = .non))) H) opIsN := by
  intro Z σ ρ H st x y xv yv Q hS rx ry h
  unfold opIsN at h
  cases y with
  | non => cases ry; exact ⟨rfl, by rw [non_iff rx]; exact h _ ρ H hS .refl rfl⟩
  | _ => exact h.elim
theorem sem_notN : SemOp Γ (fun x y H Q => y = .non ∧ Q (.bl (!decide (x = .non))) H) opNotN := by
  intro Z σ ρ H st x y xv yv Q hS rx ry h
  unfold opNotN at h
  cases y with
  | non =>
    cases ry; exact ⟨rfl, by rw [non_iff rx]; exact h _ ρ H hS .refl rfl⟩
  | _ => exact h.elim
theorem sem_neg : SemUn Γ (rU fun i => .int (-i)) unNeg := by
  intro Z σ ρ H st x xv Q hS rx h
  unfold unNeg at h
  cases x with
  | int i => cases rx; exact ⟨i, rfl, h _ ρ H hS .refl rfl⟩
  | _ => exact h.elim
/-! ### places -/
theorem ixW_ixN (n : Nat) (i : Int) : ixW n i = ixN n i := rfl
theorem atW_atI {ρ : Pl} {H : Hp} {ws : List W} {vs : List V} {i : Int} {w : W} (rl : RepL Γ ρ H ws vs) (e : atW ws i = some w) : ∃ v, atI vs i = some v ∧ RepV Γ ρ H w v := by
  unfold atW at e
  unfold atI
  rw [ixW_ixN] at e
  rw [rl.len]
  cases e1 : ixN ws.length i with
  | none => rw [e1] at e; cases e
  | some j =>
    rw [e1] at e
    exact rl.get e
theorem i_ix (hK : X.K = Γ.K) (ha : PE X a (rd Γ Z α)) (hb : PE X b (rd Γ Z β)) (hs : PlainIx b := by exact fun _ _ => rfl) : PE X (.Subscript a b pos) (rd Γ Z (eOp opIx α β)) := by
  refine PE.imp (pe_ix (ix_list.or ix_tup) ha hb hs) fun σ H Q h => rd_op (r := fun x y H Q => rIxL X.K x y H Q ∨ rIxT X.K x y H Q) ?_ h
  intro Z σ ρ H st x y xv yv Q hS rx ry h
  unfold opIx at h
  split at h
  · rename_i ws i e
    obtain ⟨t, p, vs, rfl, hq, rl, _⟩ := seqOf_lst hS rx e
    cases ry
    split at h
    · rename_i w e2
      obtain ⟨v, ev, rv⟩ := atW_atI rl e2
      rw [hK]
      cases t
      · exact .inl ⟨p, vs, i, v, rfl, rfl, hq, ev, h v ρ H hS .refl rv⟩
      · exact .inr ⟨p, vs, i, v, rfl, rfl, hq, ev, h v ρ H hS .refl rv⟩
    · exact h.elim
  · exact h.elim
theorem s_setIx {sp : Pos} (hv : PE X e (rd Γ Z α)) (ho : PE X o (rd Γ Z β)) (hi : PE X b (rd Γ Z δ)) (hs : PSet X rSetL := set_list) (ha : PG X (.Subscript o b sp) (gSub (rd Γ Z β) (rd Γ Z δ) rSetL))
    (h1 : swapsWithSole [.Subscript o b sp] e pos.line X.env = pure false := by rfl) (h2 : swappedStores [.Subscript o b sp] e X.env = pure none := by rfl) (h3 : (assignEach [.Subscript o b sp] X.env).map (·.2) = [assign (.Subscript o b sp) X.env] := by rfl) :
    PS X (.Assign [.Subscript o b sp] e pos) (rdS Γ Z (sSetIx β δ α)) := by
  refine PS.imp (ps_asg hv ha h1 h2 h3) ?_
  rintro D σ H ⟨ρ, env, st, hS, hE, h⟩
  refine ⟨ρ, env, st, hS, hE, ?_⟩
  unfold sSetIx at h
  cases e1 : α env st with
  | exc x s => rw [e1] at h; exact fun ρ' H' c d a y r => h σ ρ' H' c d a y (hE.ext y) r
  | stuck => rw [e1] at h; exact h
  | ok v s1 =>
    simp only [e1] at h
    intro vv ρ1 H1 hS1 x1 r1
    refine ⟨ρ1, env, s1, hS1, hE.ext x1, ?_⟩
    cases e2 : β env s1 with
    | exc x s => simp only [e2] at h; exact fun ρ' H' c d a y r => h σ ρ' H' c d a (x1.trans y) ((hE.ext x1).ext y) r
    | stuck => simp only [e2] at h; exact h
    | ok x s2 =>
      simp only [e2] at h
      intro xv ρ2 H2 hS2 x2 r2
      refine ⟨ρ2, env, s2, hS2, (hE.ext x1).ext x2, ?_⟩
      cases e3 : δ env s2 with
      | exc x s => simp only [e3] at h; exact fun ρ' H' c d a y r => h σ ρ' H' c d a ((x1.trans x2).trans y) (((hE.ext x1).ext x2).ext y) r
      | stuck => simp only [e3] at h; exact h
      | ok y s3 =>
        simp only [e3] at h
        intro yv ρ3 H3 hS3 x3 r3
        cases e4 : setIx x y v s3 with
        | none => rw [e4] at h; exact h.elim
        | some s4 =>
          simp only [e4] at h
          unfold setIx at e4
          split at e4
          · rename_i n i
            cases r3
            obtain ⟨p, rfl, hp⟩ := r2
            have hp3 := x3.pre n p hp
            cases e5 : s3[n]? with
            | none => rw [e5] at e4; cases e4
            | some cl =>
              rw [e5] at e4
              cases cl with
              | dict _ => cases e4
              | obj _ _ => cases e4
              | lst ws =>
                simp only at e4
                cases e6 : ixW ws.length i with
                | none => rw [e6] at e4; cases e4
                | some j =>
                  rw [e6] at e4
                  cases e4
                  obtain ⟨vs, ob, rl⟩ := hS3.at_ n _ p e5 hp3
                  have hw : Ext Γ ρ3 H3 ρ3 (upd H3 p (.lst (vs.set j vv))) := Ext.write hS3 (List.mem_of_getElem? hp3) ob trivial
                  refine ⟨p, vs, i, j, rfl, rfl, ob, by rw [rl.len, ← ixW_ixN]; exact e6, ?_⟩
                  refine h σ ρ3 _ (hS3.write hp3 ob trivial ⟨_, upd_same, ?_⟩) (((x1.trans x2).trans x3).trans hw) ((((hE.ext x1).ext x2).ext x3).ext hw)
                  exact (rl.set j (r1.ext (x2.trans x3))).ext hw
          · cases e4
/-- the target xs[i] -/
theorem g_sub {sp : Pos} (ho : PE X o (rd Γ Z β)) (hi : PE X b (rd Γ Z δ)) (k : PG X (.Subscript o b sp) (gSub (rd Γ Z β) (rd Γ Z δ) rSetL) := by exact pg_sub (by assumption) (by assumption) set_list) : PG X (.Subscript o b sp) (gSub (rd Γ Z β) (rd Γ Z δ) rSetL) := k
/-! ### slices -/
def rdP (Γ : Gm) (Z : WX) (ε : Env → Store → R (Option Int)) : TO := fun σ H Q => ∃ ρ env st, RelS Γ ρ H st ∧ RelE Γ ρ H env σ ∧ Post Γ (fun _ _ b c => b = c) Z σ ρ H Q (ε env st)
theorem o_none : PO X none (rdP Γ Z (part none)) := ⟨fun pins s σ H Q I h => po_none.run pins s σ H Q I (by obtain ⟨ρ, env, st, hS, hE, h⟩ := h; exact h none ρ H hS .refl rfl)⟩
theorem o_some (he : PE X e (rd Γ Z α)) : PO X (some e) (rdP Γ Z (part (some α))) := ⟨fun pins s σ H Q I h => (po_some he).run pins s σ H Q I (by
  obtain ⟨ρ, env, st, hS, hE, h⟩ := h
  refine ⟨ρ, env, st, hS, hE, (Post.bind h).mono ?_⟩
  rintro v H1 ⟨w, s1, ρ1, e1, hS1, x1, r1, h1⟩
  cases w with
  | int i => cases r1; exact ⟨i, rfl, h1 _ ρ1 H1 hS1 .refl rfl⟩
  | _ => exact h1.elim)⟩
theorem cut_rep {ρ : Pl} {H : Hp} {ws : List W} {vs : List V} (rl : RepL Γ ρ H ws vs) (lo hi : Option Int) : RepL Γ ρ H (cutW ws lo hi) (cutV vs lo hi) := by
  unfold cutW cutV
  rw [rl.len]
  exact (rl.drop _).take _
theorem l_sl {lo hi : Option Expr} {l h : Option IE} {p2 : Pos} (hK : X.K = Γ.K) (he : PE X e (rd Γ Z α)) (hl : PO X lo (rdP Γ Z (part l))) (hh : PO X hi (rdP Γ Z (part h))) : PE X (.Subscript e (.Slice lo hi none p2) pos) (rdL Γ Z (lSl α l h)) := by
  refine PE.imp (pe_slice sl_list he hl hh) ?_
  rintro σ H Q ⟨ρ, env, st, hS, hE, hp⟩
  refine ⟨ρ, env, st, hS, hE, (Post.bindL hS hp).mono ?_⟩
  rintro v H1 ⟨w, s1, ρ1, e1, hS1, x1, r1, h1⟩
  refine ⟨ρ1, env, s1, hS1, hE.ext x1, (Post.bindL hS1 h1).mono ?_⟩
  rintro i H2 ⟨i', s2, ρ2, e2, hS2, x2, rfl, h2⟩
  refine ⟨ρ2, env, s2, hS2, (hE.ext x1).ext x2, (Post.bindL hS2 h2).mono ?_⟩
  rintro j H3 ⟨j', s3, ρ3, e3, hS3, x3, rfl, h3⟩
  have r3 := (r1.ext x2).ext x3
  rw [hK]
  have go : ∀ {ws : List W} {a : Addr} {vs : List V}, SqL Γ.K H3 a vs → RepL Γ ρ3 H3 ws vs → PostL Γ Z σ ρ3 H3 Q (.ok (cutW ws i' j') s3) → rSlL Γ.K (.ref a) i' j' H3 Q := fun {ws a vs} hq rl k =>
    ⟨a, vs, rfl, hq, fun p hp => k p _ ρ3 _ (Fresh.of hS3 hp (cut_rep rl i' j'))⟩
  cases w with
  | lst ws => obtain ⟨a, vs, rfl, t, rl⟩ := r3; exact go t.seq rl h3
  | ro ws => obtain ⟨a, vs, rfl, t, rl⟩ := r3; exact go t.seq rl h3
  | loc n =>
    obtain ⟨a, rfl, ha⟩ := r3
    simp only at h3
    cases e5 : s3[n]? with
    | none => rw [e5] at h3; exact h3.elim
    | some cl =>
      rw [e5] at h3
      cases cl with
      | lst ws => obtain ⟨vs, ob, rl⟩ := hS3.at_ n _ a e5 ha; exact go (.of ob) rl h3
      | dict _ => exact h3.elim
      | obj _ _ => exact h3.elim
  | _ => exact h3.elim
theorem i_slT {lo hi : Option Expr} {l h : Option IE} {p2 : Pos} (hK : X.K = Γ.K) (he : PE X e (rd Γ Z α)) (hl : PO X lo (rdP Γ Z (part l))) (hh : PO X hi (rdP Γ Z (part h))) : PE X (.Subscript e (.Slice lo hi none p2) pos) (rd Γ Z (eSlT α l h)) := by
  refine PE.imp (pe_slice sl_tupA he hl hh) ?_
  rintro σ H Q ⟨ρ, env, st, hS, hE, hp⟩
  refine ⟨ρ, env, st, hS, hE, (Post.bind hp).mono ?_⟩
  rintro v H1 ⟨w, s1, ρ1, e1, hS1, x1, r1, h1⟩
  refine ⟨ρ1, env, s1, hS1, hE.ext x1, (Post.bind h1).mono ?_⟩
  rintro i H2 ⟨i', s2, ρ2, e2, hS2, x2, rfl, h2⟩
  refine ⟨ρ2, env, s2, hS2, (hE.ext x1).ext x2, (Post.bind h2).mono ?_⟩
  rintro j H3 ⟨j', s3, ρ3, e3, hS3, x3, rfl, h3⟩
  have r3 := (r1.ext x2).ext x3
  rw [hK]
  cases w with
  | tup ws =>
    obtain ⟨a, vs, rfl, t, rl⟩ := r3
    refine ⟨a, vs, rfl, t, fun ⟨q1, q2⟩ => ?_, fun _ p hp => ?_⟩
    · have ec : cutV vs i' j' = vs := by
        unfold cutV
        rw [q1, q2]
        simp
      have rc := cut_rep rl i' j'
      rw [ec] at rc
      exact h3 _ ρ3 H3 hS3 .refl ⟨a, vs, rfl, t, rc⟩
    · exact h3 _ ρ3 _ (hS3.free hp) (.free hp) ⟨p, _, rfl, .of upd_same, (cut_rep rl i' j').ext (.free hp)⟩
  | _ => exact h3.elim
end
end M

-- Sound8
set_option Elab.async false
set_option autoImplicit false
set_option linter.all false
set_option maxRecDepth 100000
namespace M
open PySem L2
section
variable {Γ : Gm} {Z : WX} {X : Cx} {a b c e o : Expr} {es : List Expr} {pos p tp : Pos} {α β δ : IE} {αs : List IE}
/-! ### built-in functions and classes by values -/
def SemC (Γ : Gm) (r : List V → Hp → VK → Prop) (f : List W → Store → R W) : Prop := ∀ (Z : WX) (σ : L2.St) (ρ : Pl) (H : Hp) (st : Store) (xs : List W) (vs : List V) (Q : VK), RelS Γ ρ H st → RepL Γ ρ H xs vs → Post Γ (RepV Γ) Z σ ρ H Q (f xs st) → r vs H Q
theorem rd_cb {r : List V → Hp → VK → Prop} {f : List W → Store → R W} (hf : SemC Γ r f) {σ : L2.St} {H : Hp} {Q : VK} (h : rd Γ Z (eB f αs) σ H Q) : tCB r (rdA Γ Z (eArgs αs)) σ H Q := by
  obtain ⟨ρ, env, st, hS, hE, h⟩ := h
  refine ⟨ρ, env, st, hS, hE, (Post.bind h).mono ?_⟩
  rintro v H1 ⟨w, s1, ρ1, e1, hS1, x1, r1, h1⟩
  exact hf Z σ ρ1 H1 s1 w v Q hS1 r1 h1
theorem i_cb {id : String} {x : Str} {r : List V → Hp → VK → Prop} {f : List W → Store → R W} (hc : CallR X (.builtin id) r) (hf : SemC Γ r f) (hm : X.mg x = none) (ha : PA X (e :: es) (rdA Γ Z (eArgs αs))) (hv : bootBuiltins x = some (.builtin id) := by decide +kernel) (hg : Gl X x := by rfl) (hn : x ≠ "__name__" := by decide) (hdb : (x == ("__debug__" : Str)) = false := by decide)
    (he : starEach (e :: es) X.env = (false, eval e X.env) :: starEach es X.env := by rfl) (hpl : (backTo pos (starEach es X.env)).any (·.1) = false := by rfl) : PE X (.Call (.Name x p) (e :: es) [] pos) (rd Γ Z (eB f αs)) :=
  PE.imp (pe_callB hc hg hm hv ha hn hdb he hpl) fun _ _ _ h => rd_cb hf h
theorem i_ct {T : String} {x : Str} {r : List V → Hp → VK → Prop} {f : List W → Store → R W} (hc : CallR X (.type T) r) (hf : SemC Γ r f) (hm : X.mg x = none) (ha : PA X (e :: es) (rdA Γ Z (eArgs αs))) (hv : bootBuiltins x = some (.type T) := by decide +kernel) (hg : Gl X x := by rfl) (hn : x ≠ "__name__" := by decide) (hdb : (x == ("__debug__" : Str)) = false := by decide)
    (he : starEach (e :: es) X.env = (false, eval e X.env) :: starEach es X.env := by rfl) (hpl : (backTo pos (starEach es X.env)).any (·.1) = false := by rfl) : PE X (.Call (.Name x p) (e :: es) [] pos) (rd Γ Z (eB f αs)) :=
  PE.imp (pe_callTy hc hg hm hv ha hn hdb he hpl) fun _ _ _ h => rd_cb hf h
theorem sem_len : SemC Γ (fun xs H Q => ∃ x n, xs = [x] ∧ LenV Γ.K x H n ∧ Q (.int n) H) bLen := by
  intro Z σ ρ H st xs vs Q hS rl h
  unfold bLen at h
  split at h
  · rename_i s
    obtain ⟨_, _, rfl, ⟨x, rfl, rfl⟩, rfl⟩ := rl
    split at h
    · rename_i hz
      refine ⟨_, x.cps.toList.length, rfl, ⟨by rw [cps_len]; exact hz, (cps_len x).symm⟩, h _ ρ H hS .refl rfl⟩
    · exact h.elim
  · rename_i x _
    obtain ⟨v, _, rfl, rv, rfl⟩ := rl
    cases e : seqOf st x with
    | none => rw [e] at h; exact h.elim
    | some ws =>
      simp only [e] at h
      obtain ⟨t, a, us, rfl, hq, rl, _⟩ := seqOf_lst hS rv e
      refine ⟨_, ws.length, rfl, ?_, h _ ρ H hS .refl rfl⟩
      cases t
      · exact .inl ⟨us, hq, rl.len.symm⟩
      · exact .inr ⟨us, hq, rl.len.symm⟩
  · exact h.elim
theorem sem_int : SemC Γ (fun xs H Q => (∃ i, xs = [.int i] ∧ Q (.int i) H) ∨ ∃ k, xs = [.bl k] ∧ Q (.int (if k then 1 else 0)) H) bInt := by
  intro Z σ ρ H st xs vs Q hS rl h
  unfold bInt at h
  split at h
  · obtain ⟨_, _, rfl, rfl, rfl⟩ := rl
    exact .inl ⟨_, rfl, h _ ρ H hS .refl rfl⟩
  · obtain ⟨_, _, rfl, rfl, rfl⟩ := rl
    exact .inr ⟨_, rfl, h _ ρ H hS .refl rfl⟩
  · exact h.elim
theorem sem_tup : SemC Γ (fun xs H Q => ∃ p ys, xs = [.ref p] ∧ ((SqL Γ.K H p ys ∧ ∀ l, H l = none → Q (.ref l) (upd H l (.tup ys))) ∨ (SqT Γ.K H p ys ∧ Q (.ref p) H))) bTup := by
  intro Z σ ρ H st xs vs Q hS rl h
  unfold bTup at h
  split at h
  · rename_i x
    obtain ⟨v, _, rfl, rv, rfl⟩ := rl
    cases e : seqOf st x with
    | none => rw [e] at h; exact h.elim
    | some ws =>
      simp only [e] at h
      obtain ⟨t, a, us, rfl, hq, rl, _⟩ := seqOf_lst hS rv e
      refine ⟨a, us, rfl, ?_⟩
      cases t
      · exact .inl ⟨hq, fun l hl => h _ ρ _ (hS.free hl) (.free hl) ⟨l, us, rfl, .of upd_same, rl.ext (.free hl)⟩⟩
      · exact .inr ⟨hq, h _ ρ H hS .refl ⟨a, us, rfl, hq, rl⟩⟩
  · exact h.elim
theorem l_list {x : Str} (hx : x = "list" := by rfl) (hK : X.K = Γ.K) (hm : X.mg x = none) (ha : PE X e (rd Γ Z α)) (hv : bootBuiltins x = some (.type "list") := by decide +kernel) (hg : Gl X x := by rfl) (hn : x ≠ "__name__" := by decide) (hdb : (x == ("__debug__" : Str)) = false := by decide)
    (hs : starEach [e] X.env = (false, eval e X.env) :: starEach [] X.env := by rfl) (hpl : (backTo pos (starEach [] X.env)).any (·.1) = false := by rfl) : PE X (.Call (.Name x p) [e] [] pos) (rdL Γ Z (lList α)) := by
  refine PE.imp (pe_callTy call_list_of hg hm hv (pa_cons ha pa_nil hs) hn hdb hs hpl) ?_
  rintro σ H Q ⟨ρ, env, st, hS, hE, hp⟩
  refine ⟨ρ, env, st, hS, hE, (Post.bindL hS hp).mono ?_⟩
  rintro v H1 ⟨w, s1, ρ1, e1, hS1, x1, r1, h1⟩
  cases e2 : seqOf s1 w with
  | none => rw [e2] at h1; exact h1.elim
  | some ws =>
    simp only [e2] at h1
    obtain ⟨t, a, us, rfl, hq, rl, _⟩ := seqOf_lst hS1 r1 e2
    refine ⟨a, us, rfl, ?_, fun l hl => h1 l us ρ1 _ (Fresh.of hS1 hl rl)⟩
    rw [hK]
    cases t
    · exact .inl hq
    · exact .inr hq
/-- isinstance(x, T) -/
theorem tuple_ty {H : Hp} {a : Addr} {vs : List V} (h : SqT Γ.K H a vs) : TyX Γ.K H (.ref a) (.type "tuple") := by
  rcases h with (h | ⟨o, h⟩) | ⟨o, its, n, h1, h2, _⟩
  · exact .base (.tup h)
  · exact .fTuple h
  · exact .kTuple h1 h2
theorem ty_x {ρ : Pl} {H : Hp} {st : Store} {w : W} {v : V} {t : String} (hS : RelS Γ ρ H st) (r : RepV Γ ρ H w v) (e : tyOf st w = some t) : TyX Γ.K H v (.type t) := by
  unfold tyOf at e
  cases w with
  | non => cases e; cases r; exact .base .non
  | bl b => cases e; cases r; exact .base (.bl b)
  | int i => cases e; cases r; exact .base (.int i)
  | str s => cases e; obtain ⟨x, rfl, _⟩ := r; exact .base (.str x)
  | tup ws => cases e; obtain ⟨a, vs, rfl, h, _⟩ := r; exact tuple_ty h
  | lst ws => cases e; obtain ⟨a, vs, rfl, h, _⟩ := r; exact .base (.lst h.1)
  | ro ws => cases e
  | loc n =>
    simp only at e
    obtain ⟨a, rfl, ha⟩ := r
    cases e1 : st[n]? with
    | none => rw [e1] at e; cases e
    | some cl =>
      rw [e1] at e
      cases cl with
      | lst us => cases e; obtain ⟨vs, ob, rl⟩ := hS.at_ n _ a e1 ha; exact .base (.lst ob)
      | dict _ => cases e
      | obj _ _ => cases e
theorem kit_all (t T : String) (ht : t ∈ ["NoneType", "bool", "int", "str", "tuple", "list"]) (hT : T ∈ ["bool", "int", "str", "tuple", "list"]) : kitB t T = some (isT t T) := by
  simp only [List.mem_cons, List.not_mem_nil, or_false] at ht hT
  rcases ht with rfl | rfl | rfl | rfl | rfl | rfl <;> rcases hT with rfl | rfl | rfl | rfl | rfl <;> decide +kernel
theorem tyOf_mem {st : Store} {w : W} {t : String} (e : tyOf st w = some t) : t ∈ ["NoneType", "bool", "int", "str", "tuple", "list"] := by
  unfold tyOf at e
  cases w with
  | loc n =>
    simp only at e
    cases e1 : st[n]? with
    | none => rw [e1] at e; cases e
    | some cl => rw [e1] at e; cases cl <;> cases e; simp
  | ro _ => cases e
  | _ => cases e; simp
theorem i_isi {T : String} {x tx : Str} {tpos : Pos} (hx : x = "isinstance" := by rfl) (hK : X.K = Γ.K) (hm : X.mg x = none) (hmT : X.mg tx = none) (ha : PE X e (rd Γ Z α)) (hT : T ∈ ["bool", "int", "str", "tuple", "list"] := by decide) (hvT : bootBuiltins tx = some (.type T) := by decide +kernel) (hgT : Gl X tx := by rfl) (hnT : tx ≠ "__name__" := by decide) (hdT : (tx == ("__debug__" : Str)) = false := by decide)
    (hv : bootBuiltins x = some (.builtin "isinstance") := by decide +kernel) (hg : Gl X x := by rfl) (hn : x ≠ "__name__" := by decide) (hdb : (x == ("__debug__" : Str)) = false := by decide)
    (hs : starEach [e, .Name tx tpos] X.env = (false, eval e X.env) :: starEach [.Name tx tpos] X.env := by rfl) (hs2 : starEach [.Name tx tpos] X.env = (false, eval (.Name tx tpos) X.env) :: starEach [] X.env := by rfl) (hpl : (backTo pos (starEach [.Name tx tpos] X.env)).any (·.1) = false := by rfl) :
    PE X (.Call (.Name x p) [e, .Name tx tpos] [] pos) (rd Γ Z (eIsi T α)) := by
  refine PE.imp (pe_callB call_isi hg hm hv (pa_cons ha (pa_cons (pe_bltn (v := .ty T) hgT hmT hvT rfl hnT hdT) pa_nil hs2) hs) hn hdb hs hpl) ?_
  rintro σ H Q ⟨ρ, env, st, hS, hE, hp⟩
  refine ⟨ρ, env, st, hS, hE, (Post.bind hp).mono ?_⟩
  rintro v H1 ⟨w, s1, ρ1, e1, hS1, x1, r1, h1⟩
  cases e2 : tyOf s1 w with
  | none => rw [e2] at h1; exact h1.elim
  | some t =>
    simp only [e2] at h1
    refine ⟨v, .ty T, .type t, .type T, isT t T, rfl, .ty T, by rw [hK]; exact ty_x hS1 r1 e2, kit_ty (kit_all t T (tyOf_mem e2) hT), h1 _ ρ1 H1 hS1 .refl rfl⟩
theorem i_bits {apos : Pos} (ho : PE X o (rd Γ Z α)) (h1 : attributeBase o "bit_length" X.env (eval o X.env) = eval o X.env := by rfl) (h2 : (apos.endLine == pos.line) = true := by rfl) : PE X (.Call (.Attribute o "bit_length" apos) [] [] pos) (rd Γ Z (eBits α)) := by
  refine PE.imp (pe_bits ho h1 h2) ?_
  rintro σ H Q ⟨ρ, env, st, hS, hE, hp⟩
  refine ⟨ρ, env, st, hS, hE, (Post.bind hp).mono ?_⟩
  rintro v H1 ⟨w, s1, ρ1, e1, hS1, x1, r1, h1⟩
  cases w with
  | int i =>
    cases r1
    have e : Builtin.Int.intBits i = bitsN i := by
      unfold Builtin.Int.intBits bitsN
      by_cases h : i = 0 <;> simp [h]
    exact ⟨i, rfl, by rw [e]; exact h1 _ ρ1 H1 hS1 .refl rfl⟩
  | _ => exact h1.elim
/-! ### methods of built-in classes by values -/
def SemM (Γ : Gm) (r : V → List V → Hp → VK → Prop) (f : W → List W → Store → R W) : Prop := ∀ (Z : WX) (σ : L2.St) (ρ : Pl) (H : Hp) (st : Store) (x : W) (xs : List W) (xv : V) (vs : List V) (Q : VK), RelS Γ ρ H st → RepV Γ ρ H x xv → RepL Γ ρ H xs vs → Post Γ (RepV Γ) Z σ ρ H Q (f x xs st) → r xv vs H Q
theorem tyM_tyV {ρ : Pl} {H : Hp} {st : Store} {T : String} {x : W} {v : V} (hS : RelS Γ ρ H st) (r : RepV Γ ρ H x v) (e : tyM st T x = true) : tyV Γ.K T v H := by
  unfold tyM at e
  cases x with
  | str s => obtain ⟨y, rfl, _⟩ := r; exact eq_of_beq e
  | int i => cases r; exact eq_of_beq e
  | lst ws => obtain ⟨a, vs, rfl, h, _⟩ := r; exact .inl ⟨eq_of_beq e, vs, h.seq⟩
  | ro ws => obtain ⟨a, vs, rfl, h, _⟩ := r; exact .inl ⟨eq_of_beq e, vs, h.seq⟩
  | loc n =>
    obtain ⟨a, rfl, ha⟩ := r
    simp only at e
    cases e1 : st[n]? with
    | none => rw [e1] at e; cases e
    | some cl =>
      rw [e1] at e
      cases cl with
      | lst us => obtain ⟨vs, ob, rl⟩ := hS.at_ n _ a e1 ha; exact .inl ⟨eq_of_beq e, vs, .of ob⟩
      | dict _ => cases e
      | obj _ _ => cases e
  | _ => cases e
theorem i_bm {T id : String} {m : Str} {r : V → List V → Hp → VK → Prop} {f : W → List W → Store → R W} {apos : Pos} (hK : X.K = Γ.K) (pa : PlainAttrs T) (slot : Slot T m id) (hty : typeOf (.builtin id) = pure (.type "method_descriptor")) (hm : MtR X id r) (hf : SemM Γ r f) (ho : PE X o (rd Γ Z α)) (ha : PA X (e :: es) (rdA Γ Z (eArgs αs)))
    (h1 : attributeBase o m X.env (eval o X.env) = eval o X.env := by rfl)
    (h2 : ((backTo pos (starEach (e :: es) X.env)).all (fun x => !x.1) && (backToKw pos (keywordEach [] X.env)).all (fun x => x.1.isSome) && decide ((e :: es).length + ([] : List Keyword).length + (if ([] : List Keyword).isEmpty then 0 else 1) < 30)) = true := by rfl)
    (h3 : (apos.endLine == pos.line) = true := by rfl) (hs : starEach (e :: es) X.env = (false, eval e X.env) :: starEach es X.env := by rfl) (h4 : (backTo pos (starEach es X.env)).any (·.1) = false := by rfl) :
    PE X (.Call (.Attribute o m apos) (e :: es) [] pos) (rd Γ Z (eBm T f α αs)) := by
  refine PE.imp (pe_bm pa slot hty hm ho ha h1 h2 h3 hs h4) ?_
  rintro σ H Q ⟨ρ, env, st, hS, hE, hp⟩
  refine ⟨ρ, env, st, hS, hE, (Post.bind hp).mono ?_⟩
  rintro v H1 ⟨w, s1, ρ1, e1, hS1, x1, r1, g1⟩
  split at g1
  · rename_i ty
    refine ⟨by rw [hK]; exact tyM_tyV hS1 r1 ty, ρ1, env, s1, hS1, hE.ext x1, (Post.bind g1).mono ?_⟩
    rintro u H2 ⟨us, s2, ρ2, e2, hS2, x2, r2, g2⟩
    exact hf Z σ ρ2 H2 s2 w us v u Q hS2 (r1.ext x2) r2 g2
  · exact g1.elim
theorem i_bm0 {T id : String} {m : Str} {r : V → List V → Hp → VK → Prop} {f : W → List W → Store → R W} {apos : Pos} (hK : X.K = Γ.K) (pa : PlainAttrs T) (slot : Slot T m id) (hty : typeOf (.builtin id) = pure (.type "method_descriptor")) (hm : MtR X id r) (hf : SemM Γ r f) (ho : PE X o (rd Γ Z α))
    (h1 : attributeBase o m X.env (eval o X.env) = eval o X.env := by rfl) (h3 : (apos.endLine == pos.line) = true := by rfl) : PE X (.Call (.Attribute o m apos) [] [] pos) (rd Γ Z (eBm T f α [])) := by
  refine PE.imp (pe_bm0 pa slot hty hm ho h1 h3) ?_
  rintro σ H Q ⟨ρ, env, st, hS, hE, hp⟩
  refine ⟨ρ, env, st, hS, hE, (Post.bind hp).mono ?_⟩
  rintro v H1 ⟨w, s1, ρ1, e1, hS1, x1, r1, g1⟩
  split at g1
  · rename_i ty
    exact ⟨by rw [hK]; exact tyM_tyV hS1 r1 ty, hf Z σ ρ1 H1 s1 w [] v [] Q hS1 r1 .nil g1⟩
  · exact g1.elim
theorem sem_app : SemM Γ rAppend mApp := by
  intro Z σ ρ H st x xs xv vs Q hS rx rl h
  unfold mApp at h
  split at h
  · rename_i n y
    obtain ⟨a, rfl, ha⟩ := rx
    obtain ⟨v, _, rfl, rv, rfl⟩ := rl
    cases e1 : st[n]? with
    | none => rw [e1] at h; exact h.elim
    | some cl =>
      rw [e1] at h
      cases cl with
      | lst ws =>
        simp only at h
        obtain ⟨us, ob, rl⟩ := hS.at_ n _ a e1 ha
        split at h
        · rename_i hz
          have hw : Ext Γ ρ H ρ (upd H a (.lst (us ++ [v]))) := Ext.write hS (List.mem_of_getElem? ha) ob trivial
          exact ⟨a, us, v, rfl, rfl, ob, by rw [rl.len]; exact hz, h .non ρ _ (hS.write ha ob trivial ⟨_, upd_same, (rl.app (.one rv)).ext hw⟩) hw rfl⟩
        · exact h.elim
      | dict _ => exact h.elim
      | obj _ _ => exact h.elim
  · exact h.elim
/-! ### truth -/
theorem tru_of {ρ : Pl} {H : Hp} {st s : Store} {w : W} {v : V} {k : Bool} (hS : RelS Γ ρ H st) (r : RepV Γ ρ H w v) (e : truth w st = .ok k s) : s = st ∧ TruV Γ.K v H k := by
  have emp : ∀ {ws : List W} {vs : List V}, RepL Γ ρ H ws vs → (!ws.isEmpty) = !vs.isEmpty := fun {ws vs} rl => by
    have := rl.len
    cases ws <;> cases vs <;> simp_all
  unfold truth at e
  cases w with
  | non => cases e; cases r; exact ⟨rfl, rfl⟩
  | bl b => cases e; cases r; exact ⟨rfl, rfl⟩
  | int i => cases e; cases r; exact ⟨rfl, rfl⟩
  | str x =>
    obtain ⟨y, rfl, rfl⟩ := r
    simp only at e
    split at e
    · rename_i hz
      cases e
      refine ⟨rfl, by rw [cps_len]; exact hz, ?_⟩
      rw [cps_len]
      cases y.cps.toList <;> simp <;> omega
    · cases e
  | tup ws => cases e; obtain ⟨a, vs, rfl, t, rl⟩ := r; exact ⟨rfl, .inr (.inl ⟨vs, t, emp rl⟩)⟩
  | lst ws => cases e; obtain ⟨a, vs, rfl, t, rl⟩ := r; exact ⟨rfl, .inl ⟨vs, t.seq, emp rl⟩⟩
  | ro ws => cases e; obtain ⟨a, vs, rfl, t, rl⟩ := r; exact ⟨rfl, .inl ⟨vs, t.seq, emp rl⟩⟩
  | loc n =>
    obtain ⟨a, rfl, ha⟩ := r
    simp only at e
    cases e1 : st[n]? with
    | none => rw [e1] at e; cases e
    | some cl =>
      rw [e1] at e
      cases cl with
      | lst us => cases e; obtain ⟨vs, ob, rl⟩ := hS.at_ n _ a e1 ha; exact ⟨rfl, .inl ⟨vs, .of ob, emp rl⟩⟩
      | dict _ => cases e
      | obj _ _ => cases e
theorem j_tru (hK : X.K = Γ.K) (ha : PE X e (rd Γ Z α)) (he : ∀ whole, isTrue e X.env whole = (do let v ← whole; standAt e.pos; holding [v] (truthy v)) := by intro _; rfl) : PT X e (rdT Γ Z (tTru α)) := by
  refine PT.imp (pt_truth ha he) ?_
  rintro σ H Q ⟨ρ, env, st, hS, hE, hp⟩
  refine ⟨ρ, env, st, hS, hE, (Post.bind hp).mono ?_⟩
  rintro v H1 ⟨w, s1, ρ1, e1, hS1, x1, r1, g1⟩
  cases e2 : truth w s1 with
  | exc x s => unfold truth at e2; split at e2 <;> (try split at e2) <;> cases e2
  | stuck => rw [e2] at g1; exact g1.elim
  | ok k s2 =>
    rw [e2] at g1
    obtain ⟨rfl, t⟩ := tru_of hS1 r1 e2
    exact ⟨k, by rw [hK]; exact t, g1 k ρ1 H1 hS1 .refl rfl⟩
end
end M
namespace M
open PySem L2
/-- the end of a law -/
theorem law_end {K : PySem.W.Frag} {H : Hp} {a : Addr} {ns : List Int} {f : Fn} (h : ∀ ns : List Int, ns.length ≤ 63 → f [.ro (ns.map W.int)] [] = .ok (.bl true) []) (hl : ns.length ≤ 63) (hS : SqL K H a (ns.map V.int)) :
    spI ⟨K, fun _ => none⟩ 1 f [.ref a] H (fun v _ => v = .bl true) fun _ _ _ => False := by
  refine ⟨rfl, ⟨[], []⟩, [], [.ro (ns.map W.int)], ⟨rfl, List.nodup_nil, fun n c a e => by simp at e, fun a ha => by simp at ha⟩, ?_, ?_⟩
  · refine .one ⟨a, ns.map V.int, rfl, ?_, ?_⟩
    · rcases hS with h | h
      · exact .inl ⟨h, by simp, by simp⟩
      · exact .inr (.inr h)
    · have go : ∀ l : List Int, RepL ⟨K, fun _ => none⟩ ⟨[], []⟩ H (l.map W.int) (l.map V.int) := by
        intro l
        induction l with
        | nil => exact rfl
        | cons x r ih => exact ⟨_, _, rfl, rfl, ih⟩
      exact go ns
  · rw [h ns hl]
    intro v ρ' H' _ _ r
    exact r
end M

-- Lib
set_option autoImplicit false
set_option linter.all false
namespace M
open Classical

/-! what the plain laws need of the small language -/
def Nxt (J : Env → Store → Prop) (P : RS → Prop) : RS → Prop
  | .nx e s => J e s
  | .cnt e s => J e s
  | .brk e s => P (.nx e s)
  | .ret w s => P (.ret w s)
  | .exc x e s => P (.exc x e s)
  | .stuck => False
@[simp] theorem Nxt_nx {J : Env → Store → Prop} {P : RS → Prop} (e : Env) (s : Store) : Nxt J P (.nx e s) = J e s := rfl
@[simp] theorem Nxt_cnt {J : Env → Store → Prop} {P : RS → Prop} (e : Env) (s : Store) : Nxt J P (.cnt e s) = J e s := rfl
@[simp] theorem Nxt_brk {J : Env → Store → Prop} {P : RS → Prop} (e : Env) (s : Store) : Nxt J P (.brk e s) = P (.nx e s) := rfl
@[simp] theorem Nxt_ret {J : Env → Store → Prop} {P : RS → Prop} (w : W) (s : Store) : Nxt J P (.ret w s) = P (.ret w s) := rfl

theorem forGo_ix {G : Store → Prop} {g : Tg} {body : IS} {P : RS → Prop} (ws : List W) (I : Nat → Env → Store → Prop)
    (step : ∀ k (h : k < ws.length) env st, I k env st → G st ∧ ∃ e, g.run ws[k] env = some e ∧ Nxt (I (k + 1)) P (body e st))
    (last : ∀ env st, I ws.length env st → G st ∧ P (.nx env st)) :
    ∀ env st, I 0 env st → P (forGo G g body ws env st) := by
  induction ws generalizing I with
  | nil => intro env st h; obtain ⟨a, b⟩ := last env st h; simp only [forGo, if_pos a]; exact b
  | cons w ws ih =>
    intro env st h
    obtain ⟨a, e, he, hn⟩ := step 0 (by simp) env st h
    simp only [List.getElem_cons_zero] at he
    simp only [forGo, if_pos a, he]
    have go := ih (fun k => I (k + 1)) (fun k hk env st hI => by
      have := step (k + 1) (by simpa using hk) env st hI
      simpa using this) (fun env st hI => last env st (by simpa using hI))
    revert hn
    cases body e st <;> intro hn <;> simp only [Nxt] at hn ⊢
    case nx e1 s1 => exact go e1 s1 hn
    case cnt e1 s1 => exact go e1 s1 hn
    all_goals first | exact hn | exact hn.elim

@[simp] theorem upTo_length (lo : Int) (n : Nat) : (upTo lo n).length = n := by simp [upTo]
@[simp] theorem upTo_g (lo : Int) (n k : Nat) (h : k < (upTo lo n).length) : (upTo lo n)[k] = .int (lo + k) := by simp [upTo]
theorem forGo_up {G : Store → Prop} {g : Tg} {body : IS} {P : RS → Prop} (lo : Int) (n : Nat) (I : Nat → Env → Store → Prop)
    (step : ∀ k, k < n → ∀ env st, I k env st → G st ∧ ∃ e, g.run (.int (lo + k)) env = some e ∧ Nxt (I (k + 1)) P (body e st))
    (last : ∀ env st, I n env st → G st ∧ P (.nx env st)) :
    ∀ env st, I 0 env st → P (forGo G g body (upTo lo n) env st) :=
  forGo_ix (upTo lo n) I (fun k h env st hI => by
    rw [upTo_g]; exact step k (by simpa using h) env st hI) (fun env st hI => last env st (by simpa using hI))

@[simp] theorem enumFrom_length (k : Nat) (ws : List W) : (enumFrom k ws).length = ws.length := by
  induction ws generalizing k with
  | nil => rfl
  | cons w ws ih => simp [enumFrom, ih]
@[simp] theorem enumFrom_g (j : Nat) (ws : List W) (k : Nat) (h : k < (enumFrom j ws).length) : (enumFrom j ws)[k] = .tup [.int ((j + k : Nat) : Int), ws[k]'(by simpa using h)] := by
  induction ws generalizing j k with
  | nil => simp [enumFrom] at h
  | cons w ws ih =>
    cases k with
    | zero => simp [enumFrom]
    | succ k => simp only [enumFrom, List.getElem_cons_succ]; rw [ih]; congr 3; omega
theorem forGo_enum {G : Store → Prop} {g : Tg} {body : IS} {P : RS → Prop} (ws : List W) (I : Nat → Env → Store → Prop)
    (step : ∀ k (h : k < ws.length) env st, I k env st → G st ∧ ∃ e, g.run (.tup [.int (k : Int), ws[k]]) env = some e ∧ Nxt (I (k + 1)) P (body e st))
    (last : ∀ env st, I ws.length env st → G st ∧ P (.nx env st)) :
    ∀ env st, I 0 env st → P (forGo G g body (enumFrom 0 ws) env st) :=
  forGo_ix (enumFrom 0 ws) I (fun k h env st hI => by
    rw [enumFrom_g]; simpa using step k (by simpa using h) env st hI) (fun env st hI => last env st (by simpa using hI))
theorem enumFrom_map {α : Type} (c : α → W) (l : List α) (j : Nat) : enumFrom j (l.map c) = (l.zipIdx j).map fun p => .tup [.int ((p.2 : Nat) : Int), c p.1] := by
  induction l generalizing j with
  | nil => rfl
  | cons a l ih => simp [enumFrom, ih]
@[simp] theorem zipW_length (a b : List W) : (zipW a b).length = min a.length b.length := by
  induction a generalizing b with
  | nil => simp [zipW]
  | cons x a ih => cases b with
    | nil => simp [zipW]
    | cons y b => simp [zipW, ih]
@[simp] theorem zipW_g (a b : List W) (k : Nat) (h : k < (zipW a b).length) : (zipW a b)[k] = .tup [a[k]'(by simp at h; omega), b[k]'(by simp at h; omega)] := by
  induction a generalizing b k with
  | nil => simp [zipW] at h
  | cons x a ih => cases b with
    | nil => simp [zipW] at h
    | cons y b => cases k with
      | zero => simp [zipW]
      | succ k => simp only [zipW, List.getElem_cons_succ]; rw [ih]

/-! comprehensions that leave the store alone -/
theorem lcGo_of {α : Type} {G : Store → Prop} {g : Tg} {t : IT} {elt : IE} {env : Env} (l : List α) (c : α → W) (p : α → Bool) (h : α → W) {st : Store} (hG : G st)
    (step : ∀ a ∈ l, ∃ e, g.run (c a) env = some e ∧ t e st = .ok (p a) st ∧ (p a = true → elt e st = .ok (h a) st)) :
    ∀ acc : List W, acc.length + l.length ≤ lim → lcGo G g t elt env (l.map c) st acc = .ok (acc ++ (l.filter p).map h) st := by
  induction l with
  | nil => intro acc _; simp [lcGo, hG]
  | cons a l ih =>
    intro acc hl
    obtain ⟨e, he, ht, hy⟩ := step a (by simp)
    have ih' := ih (fun b hb => step b (by simp [hb]))
    simp only [List.length_cons] at hl
    simp only [List.map_cons, lcGo, if_pos hG, he, ht]
    cases hp : p a with
    | false => simp only; rw [ih' acc (by omega)]; simp [hp]
    | true =>
      simp only [hy hp]
      rw [if_pos (by omega), ih' (acc ++ [h a]) (by simp; omega)]
      simp [hp]
theorem lcGo_map {α : Type} {G : Store → Prop} {g : Tg} {elt : IE} {env : Env} (l : List α) (c : α → W) (h : α → W) {st : Store} (hG : G st)
    (step : ∀ a ∈ l, ∃ e, g.run (c a) env = some e ∧ elt e st = .ok (h a) st) (hl : l.length ≤ lim) :
    lcGo G g tYes elt env (l.map c) st [] = .ok (l.map h) st := by
  rw [lcGo_of l c (fun _ => true) h hG (fun a ha => by
    obtain ⟨e, x, y⟩ := step a ha
    exact ⟨e, x, rfl, fun _ => y⟩) [] (by simpa using hl)]
  rw [List.filter_eq_self.2 (by simp)]; simp
theorem upTo_eq (lo : Int) (n : Nat) : upTo lo n = (List.range n).map fun k : Nat => W.int (lo + k) := rfl

theorem lcGo_up {G : Store → Prop} {g : Tg} {elt : IE} {env : Env} (lo : Int) (n : Nat) (h : Nat → W) {st : Store} (hG : G st)
    (step : ∀ k, k < n → ∃ e, g.run (.int (lo + k)) env = some e ∧ elt e st = .ok (h k) st) (hl : n ≤ lim) :
    lcGo G g tYes elt env (upTo lo n) st [] = .ok ((List.range n).map h) st :=
  lcGo_map (List.range n) (fun k : Nat => W.int (lo + k)) h hG (fun a ha => step a (by simpa using ha)) (by simpa using hl)
theorem lcGo_upF {G : Store → Prop} {g : Tg} {t : IT} {elt : IE} {env : Env} (lo : Int) (n : Nat) (p : Nat → Bool) (h : Nat → W) {st : Store} (hG : G st)
    (step : ∀ k, k < n → ∃ e, g.run (.int (lo + k)) env = some e ∧ t e st = .ok (p k) st ∧ (p k = true → elt e st = .ok (h k) st)) (hl : n ≤ lim) :
    lcGo G g t elt env (upTo lo n) st [] = .ok (((List.range n).filter p).map h) st := by
  have := lcGo_of (List.range n) (fun k : Nat => W.int (lo + k)) p h hG (t := t) (g := g) (elt := elt) (env := env) (fun a ha => step a (by simpa using ha)) [] (by simpa using hl)
  simp only [List.nil_append] at this; exact this
theorem enumFrom_range {α : Type} (c : α → W) (t : List α) (d : α) : enumFrom 0 (t.map c) = (List.range t.length).map fun i : Nat => .tup [.int ((i : Nat) : Int), c (t.getD i d)] := by
  apply List.ext_getElem
  · simp
  · intro i h1 h2
    simp at h1 h2
    simp [h1, h2]
/-! places and data -/
@[simp] theorem bdL_eq (n : Nat) (ws : List W) : bdL n ws = ws.all fun w => w.bd n := by
  induction ws with
  | nil => simp [bdL]
  | cons w ws ih => simp [bdL, ih]
@[simp] theorem bd_non (n : Nat) : W.non.bd n = true := by simp [W.bd]
@[simp] theorem bd_bl (n : Nat) (b : Bool) : (W.bl b).bd n = true := by simp [W.bd]
@[simp] theorem bd_int (n : Nat) (i : Int) : (W.int i).bd n = true := by simp [W.bd]
@[simp] theorem bd_str (n : Nat) (s : List Nat) : (W.str s).bd n = true := by simp [W.bd]
@[simp] theorem bd_tup (n : Nat) (ws : List W) : (W.tup ws).bd n = ws.all fun w => w.bd n := by simp [W.bd]
@[simp] theorem bd_lst (n : Nat) (ws : List W) : (W.lst ws).bd n = ws.all fun w => w.bd n := by simp [W.bd]
@[simp] theorem bd_ro (n : Nat) (ws : List W) : (W.ro ws).bd n = ws.all fun w => w.bd n := by simp [W.bd]
@[simp] theorem bd_loc (n m : Nat) : (W.loc m).bd n = decide (m < n) := by simp [W.bd]
@[simp] theorem okDL_eq (ws : List W) (n : Nat) : okDL ws n = ws.all fun w => w.okD n := by
  induction ws with
  | nil => simp [okDL]
  | cons w ws ih => simp [okDL, ih]
@[simp] theorem okD_non (n : Nat) : W.non.okD n = true := by simp [W.okD]
@[simp] theorem okD_bl (n : Nat) (b : Bool) : (W.bl b).okD n = true := by simp [W.okD]
@[simp] theorem okD_int (n : Nat) (i : Int) : (W.int i).okD n = true := by simp [W.okD]
@[simp] theorem okD_str (n : Nat) (s : List Nat) : (W.str s).okD n = s.all (· < 1114112) := by simp [W.okD]
@[simp] theorem okD_tup (n : Nat) (ws : List W) : (W.tup ws).okD (n + 1) = ws.all fun w => w.okD n := by simp [W.okD]
@[simp] theorem okD_lst (n : Nat) (ws : List W) : (W.lst ws).okD (n + 1) = ws.all fun w => w.okD n := by simp [W.okD]
@[simp] theorem okD_ro (n : Nat) (ws : List W) : (W.ro ws).okD (n + 1) = ws.all fun w => w.okD n := by simp [W.okD]
@[simp] theorem eqv_non : W.non.eqv .non = true := by simp [W.eqv]
@[simp] theorem eqv_bl (a b : Bool) : (W.bl a).eqv (.bl b) = (a == b) := by simp [W.eqv]
@[simp] theorem eqv_int (a b : Int) : (W.int a).eqv (.int b) = (a == b) := by simp [W.eqv]
@[simp] theorem eqv_bi (a : Bool) (b : Int) : (W.bl a).eqv (.int b) = ((if a then 1 else 0) == b) := by simp [W.eqv]
@[simp] theorem eqv_ib (a : Int) (b : Bool) : (W.int a).eqv (.bl b) = (a == (if b then 1 else 0)) := by simp [W.eqv]
@[simp] theorem eqv_str (a b : List Nat) : (W.str a).eqv (.str b) = (a == b) := by simp [W.eqv]
@[simp] theorem eqv_tup (a b : List W) : (W.tup a).eqv (.tup b) = eqvL a b := by simp [W.eqv]
@[simp] theorem eqv_lst (a b : List W) : (W.lst a).eqv (.lst b) = eqvL a b := by simp [W.eqv]
@[simp] theorem eqvL_nil : eqvL [] [] = true := by simp [eqvL]
@[simp] theorem eqvL_nc (b : W) (bs : List W) : eqvL [] (b :: bs) = false := by simp [eqvL]
@[simp] theorem eqvL_cn (a : W) (as : List W) : eqvL (a :: as) [] = false := by simp [eqvL]
@[simp] theorem eqvL_cc (a b : W) (as bs : List W) : eqvL (a :: as) (b :: bs) = (a.eqv b && eqvL as bs) := by simp [eqvL]
theorem eqvL_nil_r (as : List W) : eqvL as [] = as.isEmpty := by cases as <;> simp
theorem eqvL_map {α : Type} [BEq α] (c : α → W) (hc : ∀ a b, (c a).eqv (c b) = (a == b)) (as bs : List α) : eqvL (as.map c) (bs.map c) = (as == bs) := by
  induction as generalizing bs with
  | nil => cases bs <;> simp
  | cons a as ih => cases bs with
    | nil => simp
    | cons b bs => simp [ih, hc]
@[simp] theorem eqvL_bl (as bs : List Bool) : eqvL (as.map .bl) (bs.map .bl) = (as == bs) := eqvL_map _ eqv_bl as bs
@[simp] theorem eqvL_int (as bs : List Int) : eqvL (as.map .int) (bs.map .int) = (as == bs) := eqvL_map _ eqv_int as bs

@[simp] theorem flat_non : W.non.flat = true := rfl
@[simp] theorem flat_bl (b : Bool) : (W.bl b).flat = true := rfl
@[simp] theorem flat_int (b : Int) : (W.int b).flat = true := rfl
@[simp] theorem flat_str (b : List Nat) : (W.str b).flat = true := rfl
@[simp] theorem flat_tup (b : List W) : (W.tup b).flat = false := rfl
@[simp] theorem flat_lst (b : List W) : (W.lst b).flat = false := rfl
@[simp] theorem flat_ro (b : List W) : (W.ro b).flat = false := rfl
@[simp] theorem flat_loc (n : Nat) : (W.loc n).flat = false := rfl
@[simp] theorem allFlat_nil : allFlat [] = true := rfl
@[simp] theorem allFlat_cons (w : W) (ws : List W) : allFlat (w :: ws) = (w.flat && allFlat ws) := rfl
theorem allFlat_map {α : Type} (c : α → W) (hc : ∀ a, (c a).flat = true) (l : List α) : allFlat (l.map c) = true := by simp [allFlat, List.all_eq_true, hc]
@[simp] theorem all_flat_bl (l : List Bool) : allFlat (l.map W.bl) = true := allFlat_map _ (fun _ => rfl) l
@[simp] theorem all_flat_int (l : List Int) : allFlat (l.map W.int) = true := allFlat_map _ (fun _ => rfl) l
@[simp] theorem all_flat_str (l : List (List Nat)) : allFlat (l.map W.str) = true := allFlat_map _ (fun _ => rfl) l
@[simp] theorem hasW_nil (x : W) : hasW [] x = false := rfl
@[simp] theorem hasW_cons (w : W) (ws : List W) (x : W) : hasW (w :: ws) x = (w.eqv x || hasW ws x) := rfl
theorem hasW_map {α : Type} (c : α → W) (b : α) (hc : ∀ a, (c a).eqv (c b) = true ↔ a = b) (l : List α) [Decidable (b ∈ l)] : hasW (l.map c) (c b) = decide (b ∈ l) := by
  unfold hasW
  rw [Bool.eq_iff_iff]; simp only [List.any_eq_true, List.mem_map, decide_eq_true_eq]
  constructor
  · rintro ⟨_, ⟨a, h, rfl⟩, e⟩; rw [hc] at e; subst e; exact h
  · intro h; exact ⟨_, ⟨b, h, rfl⟩, (hc b).2 rfl⟩
@[simp] theorem any_eqv_bl (l : List Bool) (b : Bool) : hasW (l.map W.bl) (W.bl b) = decide (b ∈ l) := hasW_map W.bl b (fun a => by simp) l
@[simp] theorem any_eqv_int (l : List Int) (b : Int) : hasW (l.map W.int) (W.int b) = decide (b ∈ l) := hasW_map W.int b (fun a => by simp) l
@[simp] theorem any_eqv_str (l : List (List Nat)) (b : List Nat) : hasW (l.map W.str) (W.str b) = decide (b ∈ l) := hasW_map W.str b (fun a => by simp) l
/-! frames -/
theorem OldOk_app (st j : Store) : OldOk st (st ++ j) := ⟨by simp, fun i h => .inl (by simp [List.getElem?_append_left h])⟩
theorem OldOk_refl (st : Store) : OldOk st st := ⟨Nat.le_refl _, fun i h => .inl rfl⟩
theorem OldOk_pool (c c1 : Cell) (st j : Store) (h : c1.bd (c :: st).length = true) : OldOk (c :: st) (c1 :: (st ++ j)) := by
  refine ⟨by simp, fun i hi => ?_⟩
  cases i with
  | zero => exact .inr ⟨c1, by simp, h⟩
  | succ i => left; simp only [List.getElem?_cons_succ]; simp at hi; rw [List.getElem?_append_left hi]
@[simp] def W.noLoc : W → Bool
  | .loc _ => false
  | _ => true
theorem frz_no {w : W} (h : w.noLoc = true) (n : Nat) (st : Store) : frz n st w = w := by cases w <;> simp at h ⊢
theorem fin_pur {st : Store} {w : W} (j : Store) (hn : w.noLoc = true) (h : w.bd st.length = true) : fin .pur st w (st ++ j) = .ok w st := by
  simp only [fin, frz_no hn]
  rw [if_pos ⟨h, OldOk_app st j⟩]; simp
theorem fin_pur0 {st : Store} {w : W} (hn : w.noLoc = true) (h : w.bd st.length = true) : fin .pur st w st = .ok w st := by
  have := fin_pur (st := st) [] hn h; simpa using this
theorem fin_pool {c c1 : Cell} {st : Store} {w : W} (j : Store) (hc : c1.bd (c :: st).length = true) (hn : w.noLoc = true) (h : w.bd (c :: st).length = true) : fin .pur (c :: st) w (c1 :: (st ++ j)) = .ok w (c1 :: st) := by
  simp only [fin, frz_no hn]
  rw [if_pos ⟨h, OldOk_pool c c1 st j hc⟩]; simp
theorem fin_pool0 {c c1 : Cell} {st : Store} {w : W} (hc : c1.bd (c :: st).length = true) (hn : w.noLoc = true) (h : w.bd (c :: st).length = true) : fin .pur (c :: st) w (c1 :: st) = .ok w (c1 :: st) := by
  have := fin_pool (w := w) [] hc hn h; simpa using this
/-- a new list handed back -/
theorem fin_new {st : Store} {ws : List W} (j : Store) (k : Nat) (hk : j[k]? = some (.lst ws)) (h : (W.lst ws).bd st.length = true) : fin .pur st (.loc (st.length + k)) (st ++ j) = .ok (.lst ws) st := by
  have e : frz st.length (st ++ j) (.loc (st.length + k)) = .lst ws := by
    have e2 : (st ++ j)[st.length + k]? = some (.lst ws) := by rw [List.getElem?_append_right (by omega)]; simpa using hk
    simp only [frz, e2]
    rw [if_neg (by omega)]
  simp only [fin, e]
  rw [if_pos ⟨h, OldOk_app st j⟩]; simp
theorem fin_newP {c c1 : Cell} {st : Store} {ws : List W} (j : Store) (k : Nat) (hk : j[k]? = some (.lst ws)) (hc : c1.bd (c :: st).length = true) (h : (W.lst ws).bd (c :: st).length = true) : fin .pur (c :: st) (.loc (st.length + 1 + k)) (c1 :: (st ++ j)) = .ok (.lst ws) (c1 :: st) := by
  have e : frz (c :: st).length (c1 :: (st ++ j)) (.loc (st.length + 1 + k)) = .lst ws := by
    have e2 : (c1 :: (st ++ j))[st.length + 1 + k]? = some (.lst ws) := by
      rw [show st.length + 1 + k = (st.length + k) + 1 by omega, List.getElem?_cons_succ, List.getElem?_append_right (by omega)]; simpa using hk
    simp only [frz, e2]
    rw [if_neg (by simp)]
  simp only [fin, e]
  rw [if_pos ⟨h, OldOk_pool c c1 st j hc⟩]; simp
/-- the last of a store -/
@[simp] theorem get_end (st : Store) (c : Cell) : (st ++ [c])[st.length]? = some c := by simp
@[simp] theorem set_end (st : Store) (c d : Cell) : (st ++ [c]).set st.length d = st ++ [d] := by simp

@[simp] theorem log_small (n : Nat) (h : n < 9000) : Nat.log2 n < 9000 := Nat.lt_of_le_of_lt (Nat.log2_le_self n) h
theorem log_pow (n : Nat) (h : n < 2 ^ 9000) : Nat.log2 n < 9000 := by
  by_cases h0 : n = 0
  · subst h0; simp
  · exact (Nat.log2_lt h0).2 h
@[simp] theorem inR_1 : inR 1 := by unfold inR; omega
@[simp] theorem inR_2 : inR 2 := by unfold inR; omega
@[simp] theorem inR_3 : inR 3 := by unfold inR; omega
@[simp] theorem inR_4 : inR 4 := by unfold inR; omega
@[simp] theorem inR_5 : inR 5 := by unfold inR; omega
@[simp] theorem inR_6 : inR 6 := by unfold inR; omega
@[simp] theorem inR_7 : inR 7 := by unfold inR; omega
@[simp] theorem inR_8 : inR 8 := by unfold inR; omega
@[simp] theorem inR_9 : inR 9 := by unfold inR; omega
@[simp] theorem inR_10 : inR 10 := by unfold inR; omega
@[simp] theorem inR_11 : inR 11 := by unfold inR; omega
@[simp] theorem inR_12 : inR 12 := by unfold inR; omega
@[simp] theorem inR_13 : inR 13 := by unfold inR; omega
@[simp] theorem inR_14 : inR 14 := by unfold inR; omega
@[simp] theorem inR_15 : inR 15 := by unfold inR; omega
@[simp] theorem inR_16 : inR 16 := by unfold inR; omega
@[simp] theorem inR_17 : inR 17 := by unfold inR; omega
@[simp] theorem inR_18 : inR 18 := by unfold inR; omega
@[simp] theorem inR_19 : inR 19 := by unfold inR; omega
@[simp] theorem inR_20 : inR 20 := by unfold inR; omega
@[simp] theorem inR_21 : inR 21 := by unfold inR; omega
@[simp] theorem inR_22 : inR 22 := by unfold inR; omega
@[simp] theorem inR_23 : inR 23 := by unfold inR; omega
@[simp] theorem inR_24 : inR 24 := by unfold inR; omega
@[simp] theorem inR_25 : inR 25 := by unfold inR; omega
@[simp] theorem inR_26 : inR 26 := by unfold inR; omega
@[simp] theorem inR_27 : inR 27 := by unfold inR; omega
@[simp] theorem inR_28 : inR 28 := by unfold inR; omega
@[simp] theorem inR_29 : inR 29 := by unfold inR; omega
@[simp] theorem inR_30 : inR 30 := by unfold inR; omega
@[simp] theorem inR_31 : inR 31 := by unfold inR; omega
@[simp] theorem inR_32 : inR 32 := by unfold inR; omega
@[simp] theorem inR_33 : inR 33 := by unfold inR; omega
@[simp] theorem inR_34 : inR 34 := by unfold inR; omega
@[simp] theorem inR_35 : inR 35 := by unfold inR; omega
@[simp] theorem inR_36 : inR 36 := by unfold inR; omega
@[simp] theorem inR_37 : inR 37 := by unfold inR; omega
@[simp] theorem inR_38 : inR 38 := by unfold inR; omega
@[simp] theorem inR_39 : inR 39 := by unfold inR; omega
@[simp] theorem inR_40 : inR 40 := by unfold inR; omega
@[simp] theorem inR_41 : inR 41 := by unfold inR; omega
@[simp] theorem inR_42 : inR 42 := by unfold inR; omega
@[simp] theorem inR_43 : inR 43 := by unfold inR; omega
@[simp] theorem inR_44 : inR 44 := by unfold inR; omega
@[simp] theorem inR_45 : inR 45 := by unfold inR; omega
@[simp] theorem inR_46 : inR 46 := by unfold inR; omega
@[simp] theorem inR_47 : inR 47 := by unfold inR; omega
@[simp] theorem inR_48 : inR 48 := by unfold inR; omega
@[simp] theorem inR_49 : inR 49 := by unfold inR; omega
@[simp] theorem inR_50 : inR 50 := by unfold inR; omega
@[simp] theorem inR_51 : inR 51 := by unfold inR; omega
@[simp] theorem inR_52 : inR 52 := by unfold inR; omega
@[simp] theorem inR_53 : inR 53 := by unfold inR; omega
@[simp] theorem inR_54 : inR 54 := by unfold inR; omega
@[simp] theorem inR_55 : inR 55 := by unfold inR; omega
@[simp] theorem inR_56 : inR 56 := by unfold inR; omega
@[simp] theorem inR_57 : inR 57 := by unfold inR; omega
@[simp] theorem inR_58 : inR 58 := by unfold inR; omega
@[simp] theorem inR_59 : inR 59 := by unfold inR; omega
@[simp] theorem inR_60 : inR 60 := by unfold inR; omega
@[simp] theorem inR_61 : inR 61 := by unfold inR; omega
@[simp] theorem inR_62 : inR 62 := by unfold inR; omega
@[simp] theorem inR_63 : inR 63 := by unfold inR; omega
@[simp] theorem inR_64 : inR 64 := by unfold inR; omega
@[simp] theorem inR_65 : inR 65 := by unfold inR; omega
@[simp] theorem inR_nat (n : Nat) (h : n < 9000000) : inR (n : Int) := by unfold inR; omega
@[simp] theorem inR_0 : inR 0 := by unfold inR; omega
theorem pow2_cast (k : Nat) : (2 : Int) ^ k = ((2 ^ k : Nat) : Int) := by simp
@[simp] theorem pow2_pos (k : Nat) : (0 : Int) < 2 ^ k := by
  rw [pow2_cast]; exact Int.natCast_pos.2 (Nat.pow_pos (by omega))
@[simp] theorem pow2_nn (k : Nat) : (0 : Int) ≤ 2 ^ k := Int.le_of_lt (pow2_pos k)
@[simp] theorem pow2_ne (k : Nat) : ((2 : Int) ^ k = 0) = False := by
  have := pow2_pos k; simp; omega
@[simp] theorem pow2_toNat (k : Nat) : ((2 : Int) ^ k).toNat = 2 ^ k := by rw [pow2_cast]; rfl
@[simp] theorem cMul_l (i j : Int) (h : -18446744073709551616 < i) (h2 : i < 18446744073709551616) : cMul i j := .inl ⟨by simpa using h, by simpa using h2⟩
@[simp] theorem cMul_r (i j : Int) (h : -18446744073709551616 < j) (h2 : j < 18446744073709551616) : cMul i j := .inr (.inl ⟨by simpa using h, by simpa using h2⟩)
/-! items -/
theorem ixW_nat (n k : Nat) (h : k < n) : ixW n (k : Int) = some k := by simp [ixW, h]
theorem atW_nat (ws : List W) (k : Nat) (h : k < ws.length) : atW ws (k : Int) = some ws[k] := by simp only [atW, ixW_nat _ _ h]; simp [h]
@[simp] theorem atW_ofNat (ws : List W) (k : Nat) (h : k < ws.length) : atW ws (k : Int) = some ws[k] := atW_nat ws k h
@[simp] theorem atW_0 (a0 : W) (ws : List W) : atW (a0 :: ws) 0 = some a0 := atW_nat (a0 :: ws) 0 (by simp)
@[simp] theorem atW_1 (a0 a1 : W) (ws : List W) : atW (a0 :: a1 :: ws) 1 = some a1 := atW_nat (a0 :: a1 :: ws) 1 (by simp)
@[simp] theorem atW_2 (a0 a1 a2 : W) (ws : List W) : atW (a0 :: a1 :: a2 :: ws) 2 = some a2 := atW_nat (a0 :: a1 :: a2 :: ws) 2 (by simp)
@[simp] theorem atW_3 (a0 a1 a2 a3 : W) (ws : List W) : atW (a0 :: a1 :: a2 :: a3 :: ws) 3 = some a3 := atW_nat (a0 :: a1 :: a2 :: a3 :: ws) 3 (by simp)
@[simp] theorem atW_4 (a0 a1 a2 a3 a4 : W) (ws : List W) : atW (a0 :: a1 :: a2 :: a3 :: a4 :: ws) 4 = some a4 := atW_nat (a0 :: a1 :: a2 :: a3 :: a4 :: ws) 4 (by simp)
@[simp] theorem atW_5 (a0 a1 a2 a3 a4 a5 : W) (ws : List W) : atW (a0 :: a1 :: a2 :: a3 :: a4 :: a5 :: ws) 5 = some a5 := atW_nat (a0 :: a1 :: a2 :: a3 :: a4 :: a5 :: ws) 5 (by simp)
@[simp] theorem atW_6 (a0 a1 a2 a3 a4 a5 a6 : W) (ws : List W) : atW (a0 :: a1 :: a2 :: a3 :: a4 :: a5 :: a6 :: ws) 6 = some a6 := atW_nat (a0 :: a1 :: a2 :: a3 :: a4 :: a5 :: a6 :: ws) 6 (by simp)
@[simp] theorem atW_7 (a0 a1 a2 a3 a4 a5 a6 a7 : W) (ws : List W) : atW (a0 :: a1 :: a2 :: a3 :: a4 :: a5 :: a6 :: a7 :: ws) 7 = some a7 := atW_nat (a0 :: a1 :: a2 :: a3 :: a4 :: a5 :: a6 :: a7 :: ws) 7 (by simp)
@[simp] theorem atW_zero (ws : List W) (h : 0 < ws.length) : atW ws 0 = some ws[0] := atW_nat ws 0 h
theorem atW_last (ws : List W) (h : 0 < ws.length) : atW ws (-1) = some (ws[ws.length - 1]'(by omega)) := by
  have : ixW ws.length (-1) = some (ws.length - 1) := by
    simp only [ixW]; rw [if_neg (by omega), if_pos (by omega)]; congr 1; omega
  simp only [atW, this]; simp
end M

-- Bodies
set_option linter.all false
namespace M
noncomputable def b_Lpool : IS :=
  (sSeq (sSet 1 (eC (.int 7)))
  (sSeq (sFor (iSeq (eLst (lSl (eVar 0) none (some (eC (.int 63)))))) (tgName 2)
  (sSet 1 (eOp opMod (eB bInt [(eOp opAdd (eOp opMul (eVar 1) (eC (.int 31))) (eVar 2))]) (eC (.int 1000003)))))
  (sRet (eNew (eArgs [(eLst (lList (eVar 0))), (eC (.int 0)), (eC (.int 0)), (eC (.int 0)), (eVar 1)])))))
noncomputable def f_Lpool : Fn := runDef 3 .lst b_Lpool
noncomputable def b_Lspread : IS :=
  (sSeq (sSet 1 (eOp opMod (eB bInt [(eVar 0)]) (eC (.int 2147483647))))
  (sSeq (sSet 2 (eC (.int 1)))
  (sSeq (sFor (iRange [(eC (.int 4))]) (tgName 3)
  (sSeq (sSet 1 (eOp opMod (eB bInt [(eOp opAdd (eOp opAdd (eOp opMul (eVar 1) (eC (.int 48271))) (eC (.int 12345))) (eVar 3))]) (eC (.int 2147483647))))
  (sSet 2 (eOp opAdd (eOp opMul (eVar 2) (eC (.int 2147483647))) (eVar 1)))))
  (sRet (eVar 2)))))
noncomputable def f_Lspread : Fn := runDef 4 .pur b_Lspread
noncomputable def b_Ldraw : IS :=
  (sSeq (sIf (tAnd (tVal (eOp opLe (eOp opIx (eVar 0) (eC (.int 2))) (eC (.int 0)))) (tVal (eOp opLt (eOp opIx (eVar 0) (eC (.int 1))) (eB bLen [(eOp opIx (eVar 0) (eC (.int 0)))])))) (sSeq (sSet 2 (eOp opIx (eOp opIx (eVar 0) (eC (.int 0))) (eOp opIx (eVar 0) (eC (.int 1)))))
  (sSeq (sSetIx (eVar 0) (eC (.int 1)) (eOp opAdd (eOp opIx (eVar 0) (eC (.int 1))) (eC (.int 1))))
  (sSeq (sSetIx (eVar 0) (eC (.int 2)) (eVar 2))
  (sIf (tVal (eOp opLt (eVar 2) (eC (.int 1000000000000000000)))) (sSetIx (eVar 0) (eC (.int 2)) (eCall f_Lspread [(eVar 2)]))
  sSkip))))
  sSkip)
  (sSeq (sSetIx (eVar 0) (eC (.int 3)) (eOp opAdd (eOp opIx (eVar 0) (eC (.int 3))) (eC (.int 1))))
  (sSeq (sIf (tVal (eOp opLe (eOp opIx (eVar 0) (eC (.int 2))) (eC (.int 0)))) (sSeq (sSet 3 (eOp opMod (eB bInt [(eOp opAdd (eOp opAdd (eOp opMul (eOp opIx (eVar 0) (eC (.int 4))) (eC (.int 48271))) (eOp opMul (eOp opIx (eVar 0) (eC (.int 3))) (eC (.int 69621)))) (eC (.int 1)))]) (eC (.int 2147483647))))
  (sSeq (sSet 3 (eOp opMod (eB bInt [(eOp opAdd (eOp opMul (eVar 3) (eC (.int 16807))) (eOp opIx (eVar 0) (eC (.int 3))))]) (eC (.int 2147483629))))
  (sRet (eOp opMod (eOp opDiv (eVar 3) (eC (.int 5))) (eVar 1)))))
  sSkip)
  (sSeq (sSet 4 (eOp opMod (eB bInt [(eOp opIx (eVar 0) (eC (.int 2)))]) (eVar 1)))
  (sSeq (sSetIx (eVar 0) (eC (.int 2)) (eOp opDiv (eOp opIx (eVar 0) (eC (.int 2))) (eVar 1)))
  (sRet (eVar 4)))))))
noncomputable def f_Ldraw : Fn := runDef 5 .pur b_Ldraw
noncomputable def b_Lbits : IS :=
  (sSeq (sSet 2 (eNew (eArgs [])))
  (sSeq (sFor (iRange [(eVar 1)]) (tgName 3)
  (sSeq (sDrop (eBm "list" mApp (eVar 2) [(eOp opEq (eOp opMod (eB bInt [(eVar 0)]) (eC (.int 2))) (eC (.int 1)))]))
  (sSet 0 (eOp opDiv (eVar 0) (eC (.int 2))))))
  (sRet (eB bTup [(eVar 2)]))))
noncomputable def f_Lbits : Fn := runDef 4 .pur b_Lbits
noncomputable def b_Ltable : IS :=
  (sSeq (sSet 2 (eOp opIx (eLst (eArgs [(eC (.int 1)), (eC (.int 2)), (eC (.int 4)), (eC (.int 8)), (eC (.int 16)), (eC (.int 32)), (eC (.int 64))])) (eVar 1)))
  (sSeq (sSet 3 (eCall f_Ldraw [(eVar 0), (eC (.int 6))]))
  (sSeq (sIf (tVal (eOp opEq (eVar 3) (eC (.int 0)))) (sSeq (sSet 4 (eOp opEq (eCall f_Ldraw [(eVar 0), (eC (.int 2))]) (eC (.int 1))))
  (sRet (eB bTup [(eLst (lLC (iRange [(eVar 2)]) (tgName 9) tYes (eVar 4) [9]))])))
  sSkip)
  (sSeq (sIf (tAnd (tVal (eOp opEq (eVar 3) (eC (.int 1)))) (tVal (eOp opGt (eVar 1) (eC (.int 0))))) (sSeq (sSet 5 (eOp opIx (eLst (eArgs [(eC (.int 1)), (eC (.int 2)), (eC (.int 4)), (eC (.int 8)), (eC (.int 16)), (eC (.int 32))])) (eCall f_Ldraw [(eVar 0), (eVar 1)])))
  (sRet (eB bTup [(eLst (lLC (iRange [(eVar 2)]) (tgName 9) tYes (eOp opEq (eOp opMod (eB bInt [(eOp opDiv (eVar 9) (eVar 5))]) (eC (.int 2))) (eC (.int 1))) [9]))])))
  sSkip)
  (sSeq (sIf (tVal (eOp opEq (eVar 3) (eC (.int 2)))) (sSeq (sSet 6 (eCall f_Ldraw [(eVar 0), (eVar 2)]))
  (sRet (eB bTup [(eLst (lLC (iRange [(eVar 2)]) (tgName 9) tYes (eOp opEq (eVar 9) (eVar 6)) [9]))])))
  sSkip)
  (sSeq (sSet 7 (eCall f_Ldraw [(eVar 0), (eOp opPow (eC (.int 2)) (eC (.int 64)))]))
  (sRet (eB bTup [(eLst (lLC (iSeq (eCall f_Lbits [(eVar 7), (eVar 2)])) (tgName 8) tYes (eVar 8) [8]))]))))))))
noncomputable def f_Ltable : Fn := runDef 10 .pur b_Ltable
noncomputable def b_Lsame (C : Fn) : IS :=
  (sSeq (sIf (tOr (tTru (eIsi "tuple" (eVar 1))) (tTru (eIsi "list" (eVar 1)))) (sSeq (sIf (tOr (tVal (eOp opNe (eIsi "tuple" (eVar 1)) (eIsi "tuple" (eVar 0)))) (tVal (eOp opNe (eIsi "list" (eVar 1)) (eIsi "list" (eVar 0))))) (sRet (eC (.bl false)))
  sSkip)
  (sSeq (sIf (tVal (eOp opNe (eB bLen [(eVar 0)]) (eB bLen [(eVar 1)]))) (sRet (eC (.bl false)))
  sSkip)
  (sSeq (sFor (iRange [(eB bLen [(eVar 1)])]) (tgName 2)
  (sIf (tNot (tTru (eCall C [(eOp opIx (eVar 0) (eVar 2)), (eOp opIx (eVar 1) (eVar 2))]))) (sRet (eC (.bl false)))
  sSkip))
  (sRet (eC (.bl true))))))
  sSkip)
  (sSeq (sIf (tVal (eOp opIsN (eVar 1) (eC .non))) (sRet (eOp opIsN (eVar 0) (eC .non)))
  sSkip)
  (sSeq (sIf (tTru (eIsi "bool" (eVar 1))) (sRet (eAndV (eIsi "bool" (eVar 0)) (eOp opEq (eVar 0) (eVar 1))))
  sSkip)
  (sSeq (sIf (tTru (eIsi "int" (eVar 1))) (sRet (eAndV (eIsi "int" (eVar 0)) (eAndV (eNotV (eIsi "bool" (eVar 0))) (eOp opEq (eVar 0) (eVar 1)))))
  sSkip)
  (sRet (eAndV (eIsi "str" (eVar 0)) (eOp opEq (eVar 0) (eVar 1))))))))
noncomputable def f_Lsame : Nat → Fn
  | 0 => fun _ _ => .stuck
  | k + 1 => runDef 3 .pur (b_Lsame (f_Lsame k))
noncomputable def b_Lwidened : IS :=
  (sSeq (sSet 2 (eOp opIx (eLst (eArgs [(eC (.int 1)), (eC (.int 2)), (eC (.int 4)), (eC (.int 8)), (eC (.int 16)), (eC (.int 32))])) (eVar 1)))
  (sSeq (sSet 3 (eNew (eArgs [])))
  (sSeq (sFor (iRange [(eOp opMul (eC (.int 2)) (eB bLen [(eVar 0)]))]) (tgName 4)
  (sDrop (eBm "list" mApp (eVar 3) [(eOp opIx (eVar 0) (eOp opAdd (eOp opMul (eOp opDiv (eVar 4) (eOp opMul (eC (.int 2)) (eVar 2))) (eVar 2)) (eOp opMod (eB bInt [(eVar 4)]) (eVar 2))))])))
  (sRet (eB bTup [(eVar 3)])))))
noncomputable def f_Lwidened : Fn := runDef 5 .pur b_Lwidened
noncomputable def b_inputs_of : IS :=
  (sRet (eOp opSub (eBits (eB bLen [(eVar 0)])) (eC (.int 1))))
noncomputable def f_inputs_of : Fn := runDef 1 .pur b_inputs_of
noncomputable def b_depends_on : IS :=
  (sSeq (sSet 1 (eNew (eArgs [])))
  (sSeq (sFor (iRange [(eCall f_inputs_of [(eVar 0)])]) (tgName 2)
  (sIf (tTru (eLst (lLC (iEnum (eVar 0)) (tgTup [(tgName 3), (tgName 4)]) (tVal (eOp opNe (eVar 4) (eOp opIx (eVar 0) (eOp opXor (eVar 3) (eOp opShl (eC (.int 1)) (eVar 2)))))) (eVar 4) [3, 4]))) (sDrop (eBm "list" mApp (eVar 1) [(eVar 2)]))
  sSkip))
  (sRet (eVar 1))))
noncomputable def f_depends_on : Fn := runDef 5 .pur b_depends_on
noncomputable def b_Ldue : IS :=
  (sSeq (sSet 2 (eNew (eArgs [])))
  (sSeq (sFor (iRange [(eVar 1)]) (tgName 3)
  (sSeq (sSet 4 (eOp opIx (eLst (eArgs [(eC (.int 1)), (eC (.int 2)), (eC (.int 4)), (eC (.int 8)), (eC (.int 16)), (eC (.int 32))])) (eVar 3)))
  (sFor (iRange [(eB bLen [(eVar 0)])]) (tgName 5)
  (sIf (tAnd (tVal (eOp opEq (eOp opMod (eB bInt [(eOp opDiv (eVar 5) (eVar 4))]) (eC (.int 2))) (eC (.int 0)))) (tVal (eOp opNe (eOp opIx (eVar 0) (eVar 5)) (eOp opIx (eVar 0) (eOp opAdd (eVar 5) (eVar 4)))))) (sSeq (sDrop (eBm "list" mApp (eVar 2) [(eVar 3)]))
  sBrk)
  sSkip))))
  (sRet (eVar 2))))
noncomputable def f_Ldue : Fn := runDef 6 .pur b_Ldue
noncomputable def b_law : IS :=
  (sSeq (sSet 1 (eCall f_Lpool [(eVar 0)]))
  (sSeq (sFor (iRange [(eC (.int 8))]) (tgName 2)
  (sSeq (sSet 3 (eCall f_Ldraw [(eVar 1), (eC (.int 7))]))
  (sSeq (sSet 4 (eCall f_Ltable [(eVar 1), (eVar 3)]))
  (sSeq (sFor (iRange [(eCall f_Ldraw [(eVar 1), (eC (.int 3))])]) (tgName 5)
  (sIf (tVal (eOp opLt (eVar 3) (eC (.int 6)))) (sSeq (sSet 6 (eCall f_Ldraw [(eVar 1), (eOp opAdd (eVar 3) (eC (.int 1)))]))
  (sSeq (sSet 4 (eCall f_Lwidened [(eVar 4), (eVar 6)]))
  (sSeq (sSet 3 (eOp opAdd (eVar 3) (eC (.int 1))))
  (sIf (tVal (eOp (opIn false) (eVar 6) (eCall f_depends_on [(eVar 4)]))) (sRet (eC (.bl false)))
  sSkip))))
  sSkip))
  (sIf (tNot (tTru (eCall (f_Lsame 8) [(eCall f_depends_on [(eVar 4)]), (eCall f_Ldue [(eVar 4), (eVar 3)])]))) (sRet (eC (.bl false)))
  sSkip)))))
  (sRet (eC (.bl true)))))
noncomputable def f_law : Fn := runDef 7 .pur b_law
end M

-- Spec
set_option autoImplicit false
set_option linter.all false
namespace M
open Classical
/-! the pool and its draws -/
def Pool (c : Cell) : Prop := ∃ (ns : List Int) (i v k s : Int), c = .lst [.lst (ns.map .int), .int i, .int v, .int k, .int s] ∧ 0 ≤ i
theorem Pool.bd {c : Cell} (h : Pool c) (n : Nat) : c.bd n = true := by
  obtain ⟨ns, i, v, k, s, rfl, -⟩ := h
  simp [Cell.bd]
/-- an answer that may have drawn -/
def Gets (r : R W) (st : Store) (Q : W → Prop) : Prop := ∃ w c, Pool c ∧ r = .ok w (c :: st) ∧ Q w
theorem spread_ok (v : Int) (st : Store) : ∃ t : Int, f_Lspread [.int v] st = .ok (.int t) st := by
  simp only [f_Lspread, runDef, b_Lspread]
  simp
  generalize hr : forGo _ _ _ _ _ _ = r
  have key : ∃ a b x y, r = .nx [a, some (.int x), some (.int y), b] st := by
    rw [← hr]
    refine forGo_up (P := fun r => ∃ a b x y, r = .nx [a, some (.int x), some (.int y), b] st) 0 4 (fun _ env s => s = st ∧ ∃ a b x y, env = [a, some (.int x), some (.int y), b]) ?_ ?_ _ _ ⟨rfl, _, _, _, _, rfl⟩
    · rintro k hk env s ⟨rfl, a, b, x, y, rfl⟩
      simp
    · rintro env s ⟨rfl, a, b, x, y, rfl⟩
      exact ⟨trivial, a, b, x, y, rfl⟩
  obtain ⟨a, b, x, y, rfl⟩ := key
  exact ⟨y, by simp; exact fin_pur0 (by simp) (by simp)⟩
theorem mod_range (a m : Int) (h : 0 < m) : 0 ≤ a % m ∧ a % m < m := ⟨Int.emod_nonneg _ (by omega), Int.emod_lt_of_pos _ h⟩
theorem draw_ok {c : Cell} (hc : Pool c) (m : Int) (h : 0 < m) (hm : m.natAbs.log2 < 9000) (st : Store) : ∃ (v : Int) (c1 : Cell), Pool c1 ∧ f_Ldraw [.loc 0, .int m] (c :: st) = .ok (.int v) (c1 :: st) ∧ 0 ≤ v ∧ v < m := by
  obtain ⟨ns, i, v, k, s, rfl, hi⟩ := hc
  simp only [f_Ldraw, runDef, b_Ldraw]
  have fin1 : ∀ (c0 c1 : Cell) (x : Int), Pool c1 → fin .pur (c0 :: st) (.int x) (c1 :: st) = .ok (.int x) (c1 :: st) := fun c0 c1 x hp => fin_pool0 (hp.bd _) (by simp) (by simp)
  -- the second part
  have tail : ∀ (ns : List Int) (i v k s : Int) (y z u : Option W), 0 ≤ i → ∃ (x : Int) (c1 : Cell), Pool c1 ∧ 0 ≤ x ∧ x < m ∧ (sSeq (sSetIx (eVar 0) (eC (.int 3)) (eOp opAdd (eOp opIx (eVar 0) (eC (.int 3))) (eC (.int 1))))
  (sSeq (sIf (tVal (eOp opLe (eOp opIx (eVar 0) (eC (.int 2))) (eC (.int 0)))) (sSeq (sSet 3 (eOp opMod (eB bInt [(eOp opAdd (eOp opAdd (eOp opMul (eOp opIx (eVar 0) (eC (.int 4))) (eC (.int 48271))) (eOp opMul (eOp opIx (eVar 0) (eC (.int 3))) (eC (.int 69621)))) (eC (.int 1)))]) (eC (.int 2147483647))))
  (sSeq (sSet 3 (eOp opMod (eB bInt [(eOp opAdd (eOp opMul (eVar 3) (eC (.int 16807))) (eOp opIx (eVar 0) (eC (.int 3))))]) (eC (.int 2147483629))))
  (sRet (eOp opMod (eOp opDiv (eVar 3) (eC (.int 5))) (eVar 1)))))
  sSkip)
  (sSeq (sSet 4 (eOp opMod (eB bInt [(eOp opIx (eVar 0) (eC (.int 2)))]) (eVar 1)))
  (sSeq (sSetIx (eVar 0) (eC (.int 2)) (eOp opDiv (eOp opIx (eVar 0) (eC (.int 2))) (eVar 1)))
  (sRet (eVar 4)))))) [some (.loc 0), some (.int m), y, z, u] (.lst [.lst (ns.map .int), .int i, .int v, .int k, .int s] :: st) = .ret (.int x) (c1 :: st) := by
    intro ns i v k s y z u hi
    by_cases hv : v ≤ 0
    · simp [hv, h]
      exact ⟨_, _, ⟨ns, i, v, k + 1, s, rfl, hi⟩, (mod_range _ m h).1, (mod_range _ m h).2, rfl, rfl⟩
    · simp [hv, h, hm]
      exact ⟨_, _, ⟨ns, i, _, k + 1, s, rfl, hi⟩, (mod_range _ m h).1, (mod_range _ m h).2, rfl, rfl⟩
  by_cases h1 : v ≤ 0 ∧ i < ns.length
  · obtain ⟨hv, hl⟩ := h1
    obtain ⟨n, rfl⟩ := Int.eq_ofNat_of_zero_le hi
    have hl' : n < ns.length := by omega
    obtain ⟨t, ht⟩ := spread_ok ns[n] (.lst [.lst (ns.map .int), .int (n + 1), .int ns[n], .int k, .int s] :: st)
    by_cases hs : ns[n] < 1000000000000000000
    · obtain ⟨x, c1, p1, p2, p3, p4⟩ := tail ns (n + 1) t k s (some (.int ns[n])) none none (by omega)
      refine ⟨x, c1, p1, ?_, p2, p3⟩
      rw [sSeq]
      generalize hb : sSeq _ _ = bb at p4
      simp [hv, hl, hl', hs, ht, p4]
      exact fin1 _ _ _ p1
    · obtain ⟨x, c1, p1, p2, p3, p4⟩ := tail ns (n + 1) ns[n] k s (some (.int ns[n])) none none (by omega)
      refine ⟨x, c1, p1, ?_, p2, p3⟩
      rw [sSeq]
      generalize hb : sSeq _ _ = bb at p4
      simp [hv, hl, hl', hs, p4]
      exact fin1 _ _ _ p1
  · obtain ⟨x, c1, p1, p2, p3, p4⟩ := tail ns i v k s none none none hi
    refine ⟨x, c1, p1, ?_, p2, p3⟩
    rw [sSeq]
    rcases Decidable.not_and_iff_not_or_not.1 h1 with h1 | h1
    · have h2 : decide (v ≤ 0) = false := by simpa using h1
      generalize hb : sSeq _ _ = bb at p4
      simp [h2, p4]
      exact fin1 _ _ _ p1
    · by_cases hv : v ≤ 0
      · generalize hb : sSeq _ _ = bb at p4
        simp [h1, hv, p4]
        exact fin1 _ _ _ p1
      · generalize hb : sSeq _ _ = bb at p4
        simp [h1, hv, p4]
        exact fin1 _ _ _ p1
theorem draw_nat {c : Cell} (hc : Pool c) (m : Int) (h : 0 < m) (hm : m < 9000) (st : Store) : ∃ (v : Nat) (c1 : Cell), Pool c1 ∧ f_Ldraw [.loc 0, .int m] (c :: st) = .ok (.int v) (c1 :: st) ∧ (v : Int) < m := by
  obtain ⟨v, c1, p, q, r, s⟩ := draw_ok hc m h (log_small _ (by omega)) st
  exact ⟨v.toNat, c1, p, by rw [q, Int.toNat_of_nonneg r], by omega⟩
theorem pool_ok (ns : List Int) (h : ns.length ≤ 63) : ∃ c, Pool c ∧ f_Lpool [.ro (ns.map .int)] [] = .ok (.loc 0) [c] := by
  simp only [f_Lpool, runDef, b_Lpool]
  simp
  generalize hr : forGo _ _ _ _ _ _ = r
  have key : ∃ (x : Option W) (a : Int) (b : Option W), r = .nx [x, some (.int a), b] [] ∧ x = some (.ro (ns.map .int)) := by
    rw [← hr]
    rw [show cutW (ns.map W.int) none (some 63) = (ns.take 63).map W.int by simp [cutW, sIxN]]
    refine forGo_ix (P := fun r => ∃ (x : Option W) (a : Int) (b : Option W), r = .nx [x, some (.int a), b] [] ∧ x = some (.ro (ns.map .int))) _ (fun _ env s => s = [] ∧ ∃ (a : Int) (b : Option W), env = [some (.ro (ns.map .int)), some (.int a), b]) ?_ ?_ _ _ ⟨rfl, _, _, rfl⟩
    · rintro k hk env s ⟨rfl, a, b, rfl⟩
      simp
    · rintro env s ⟨rfl, a, b, rfl⟩
      exact ⟨trivial, _, a, b, rfl, rfl⟩
  obtain ⟨x, a, b, rfl, rfl⟩ := key
  simp [fin]
  refine ⟨_, ⟨ns, 0, 0, 0, a, rfl, by omega⟩, ?_⟩
  rw [if_pos ⟨by simp, by simp⟩]
/-! _law_bits -/
def bitsOf (i : Nat) (n : Nat) : List Bool := (List.range n).map fun k => i.testBit k
@[simp] theorem bitsOf_length (i n : Nat) : (bitsOf i n).length = n := by simp [bitsOf]
theorem div_testBit (i k : Nat) : (i / 2 ^ k) % 2 = 1 ↔ i.testBit k = true := by
  rw [Nat.testBit_eq_decide_div_mod_eq]; simp
theorem shr_nonneg (i k : Nat) : 0 ≤ (i : Int) / 2 ^ k := by
  have q : (i : Int) / 2 ^ k = ((i / 2 ^ k : Nat) : Int) := by simp
  rw [q]; exact Int.natCast_nonneg _
theorem shr_bit (i k : Nat) : max ((i : Int) / 2 ^ k) 0 % 2 = if i.testBit k then 1 else 0 := by
  have q : (i : Int) / 2 ^ k = ((i / 2 ^ k : Nat) : Int) := by simp
  rw [q]
  have := div_testBit i k
  generalize i / 2 ^ k = D at *
  split
  · have := this.2 (by assumption); omega
  · rename_i h
    have : ¬ D % 2 = 1 := fun h2 => h (this.1 h2)
    omega
theorem bits_ok (i n : Nat) (h : n < 9000) (st : Store) : f_Lbits [.int i, .int n] st = .ok (.tup ((bitsOf i n).map .bl)) st := by
  simp only [f_Lbits, runDef, b_Lbits]
  have b1 : inR (n : Int) := by unfold inR; omega
  simp [b1]
  generalize hr : forGo _ _ _ _ _ _ = r
  have key : ∃ x y, r = .nx [some x, some (.int n), some (.loc st.length), y] (st ++ [.lst ((bitsOf i n).map .bl)]) := by
    rw [← hr]
    refine forGo_up (P := fun r => ∃ x y, r = .nx [some x, some (.int n), some (.loc st.length), y] (st ++ [.lst ((bitsOf i n).map .bl)])) 0 n (fun k env s => s = st ++ [.lst ((bitsOf i k).map .bl)] ∧ ∃ y, env = [some (.int ((i / 2 ^ k : Nat) : Int)), some (.int n), some (.loc st.length), y]) ?_ ?_ _ _ ?_
    · rintro k hk env s ⟨rfl, y, rfl⟩
      have hl : k < lim := by unfold lim; omega
      refine ⟨trivial, _, rfl, ?_⟩
      simp [hl]
      constructor
      · have : bitsOf i (k + 1) = bitsOf i k ++ [i.testBit k] := by simp [bitsOf, List.range_succ]
        rw [this]
        simp
        have q : (i : Int) / 2 ^ k = ((i / 2 ^ k : Nat) : Int) := by simp
        rw [q, Bool.eq_iff_iff, beq_iff_eq, ← div_testBit]; omega
      · have q : (i : Int) / 2 ^ k = ((i / 2 ^ k : Nat) : Int) := by simp
        have q2 : (i : Int) / 2 ^ (k + 1) = ((i / 2 ^ (k + 1) : Nat) : Int) := by simp
        rw [q, q2, Nat.pow_succ, ← Nat.div_div_eq_div_mul]; omega
    · rintro env s ⟨rfl, y, rfl⟩
      exact ⟨trivial, _, _, rfl⟩
    · exact ⟨by simp [bitsOf], none, by simp⟩
  obtain ⟨x, y, rfl⟩ := key
  simp
  exact fin_pur _ (by simp) (by simp)
theorem shr_even (i k : Nat) : ((i : Int) / 2 ^ k % 2 == 0) = !i.testBit k := by
  have q : (i : Int) / 2 ^ k = ((i / 2 ^ k : Nat) : Int) := by simp
  rw [q]
  have := div_testBit i k
  generalize i / 2 ^ k = D at *
  cases h : i.testBit k
  · rw [h] at this; have : ¬ D % 2 = 1 := fun e => by simpa using this.1 e
    simp; omega
  · have := this.2 h; simp; omega
theorem log_2pow (k : Nat) (h : k < 9000) : ((2 : Int) ^ k).natAbs.log2 < 9000 := by
  rw [Int.natAbs_pow]; simp; exact h
/-! _law_table -/
theorem log_64 : (18446744073709551616 : Int).natAbs.log2 < 9000 := log_pow _ (by
  show 18446744073709551616 < 2 ^ 9000
  calc 18446744073709551616 = 2 ^ 64 := rfl
    _ < 2 ^ 9000 := Nat.pow_lt_pow_right (by omega) (by omega))
def pow6 : List W := [.int 1, .int 2, .int 4, .int 8, .int 16, .int 32]
theorem pow6_at (v : Nat) (h : v < 6) : atW [.int 1, .int 2, .int 4, .int 8, .int 16, .int 32] (v : Int) = some (.int ((2 ^ v : Nat) : Int)) := by
  rw [atW_nat _ _ (by simpa using h)]
  obtain rfl | rfl | rfl | rfl | rfl | rfl : v = 0 ∨ v = 1 ∨ v = 2 ∨ v = 3 ∨ v = 4 ∨ v = 5 := by omega
  all_goals rfl
theorem pow7_at (v : Nat) (h : v < 7) : atW [.int 1, .int 2, .int 4, .int 8, .int 16, .int 32, .int 64] (v : Int) = some (.int ((2 ^ v : Nat) : Int)) := by
  rw [atW_nat _ _ (by simpa using h)]
  obtain rfl | rfl | rfl | rfl | rfl | rfl | rfl : v = 0 ∨ v = 1 ∨ v = 2 ∨ v = 3 ∨ v = 4 ∨ v = 5 ∨ v = 6 := by omega
  all_goals rfl
theorem table_ok {c : Cell} (hc : Pool c) (n : Nat) (h : n < 7) (st : Store) : ∃ (t : List Bool) (c1 : Cell), Pool c1 ∧ t.length = 2 ^ n ∧ f_Ltable [.loc 0, .int n] (c :: st) = .ok (.tup (t.map .bl)) (c1 :: st) := by
  simp only [f_Ltable, runDef, b_Ltable]
  have h64 : 2 ^ n ≤ 64 := by
    calc 2 ^ n ≤ 2 ^ 6 := Nat.pow_le_pow_right (by omega) (by omega)
      _ = 64 := rfl
  have hp : 0 < 2 ^ n := Nat.pos_of_ne_zero (by simp)
  have at7 := pow7_at n h
  generalize 2 ^ n = N at *
  have hr : inR (N : Int) := inR_nat _ (by omega)
  have hlim : N ≤ lim := by unfold lim; omega
  have fin1 : ∀ (c0 c1 : Cell) (l : List Bool), Pool c1 → fin .pur (c0 :: st) (.tup (l.map .bl)) (c1 :: st) = .ok (.tup (l.map .bl)) (c1 :: st) := fun c0 c1 x hp => fin_pool0 (hp.bd _) (by simp) (by simp)
  obtain ⟨v, c1, p1, e1, l1⟩ := draw_nat hc 6 (by omega) (by omega) st
  by_cases v0 : v = 0
  · obtain ⟨u, c2, p2, e2, l2⟩ := draw_nat p1 2 (by omega) (by omega) st
    simp [at7, e1, e2, hr, v0]
    rw [lcGo_up 0 N (fun k => .bl (((u : Int) == 1))) trivial (fun k hk => ⟨_, rfl, by simp⟩) hlim]
    simp
    refine ⟨(List.range N).map fun _ => ((u : Int) == 1), c2, p2, by simp, ?_⟩
    rw [← fin1 _ _ _ p2, List.map_map]; rfl
  by_cases v1 : v = 1 ∧ 0 < n
  · obtain ⟨rfl, v1⟩ := v1
    obtain ⟨u, c2, p2, e2, l2⟩ := draw_nat p1 n (by omega) (by omega) st
    have at6 := pow6_at u (by omega)
    have hu : 0 < 2 ^ u ∧ Nat.log2 (2 ^ u) < 9000 := ⟨Nat.pos_of_ne_zero (by simp), by simp; omega⟩
    generalize 2 ^ u = U at *
    simp [at7, e1, e2, hr, v1, at6]
    rw [lcGo_up 0 N (fun k => .bl ((k : Int) / U % 2 == 1)) trivial (fun k hk => ⟨_, rfl, by simp [hu]⟩) hlim]
    simp
    refine ⟨(List.range N).map fun k : Nat => ((k : Int) / U % 2 == 1), c2, p2, by simp, ?_⟩
    rw [← fin1 _ _ _ p2, List.map_map]; rfl
  by_cases v2 : v = 2
  · obtain ⟨u, c2, p2, e2, l2⟩ := draw_nat p1 N (by omega) (by omega) st
    simp [at7, e1, e2, hr, v2]
    rw [lcGo_up 0 N (fun k => .bl ((k : Int) == u)) trivial (fun k hk => ⟨_, rfl, by simp⟩) hlim]
    simp
    refine ⟨(List.range N).map fun k : Nat => ((k : Int) == u), c2, p2, by simp, ?_⟩
    rw [← fin1 _ _ _ p2, List.map_map]; rfl
  · obtain ⟨u, c2, p2, e2, l2, -⟩ := draw_ok p1 18446744073709551616 (by omega) log_64 st
    obtain ⟨u, rfl⟩ := Int.eq_ofNat_of_zero_le l2
    have eb := bits_ok u N (by omega) (c2 :: st)
    have w0 : ((v : Int) == 0) = false := by simp; omega
    have w2 : ((v : Int) == 2) = false := by simp; omega
    have w1 : (((v : Int) == 1) = true ∧ 0 < n) = False := by simp; omega
    have w3 : ((v : Int) == 1) = false ∨ (((v : Int) == 1) = true ∧ (0 < n) = False) := by
      cases h : (v : Int) == 1 <;> simp [h] at w1 ⊢; exact w1
    rcases w3 with w3 | ⟨w3, w4⟩
    · simp [at7, e1, e2, w0, w2, w3, cPow, eb]
      rw [lcGo_map (bitsOf u N) .bl .bl trivial (fun k hk => ⟨_, rfl, by simp⟩) (by simpa using hlim)]
      simp
      refine ⟨bitsOf u N, c2, p2, by simp, fin1 _ _ _ p2⟩
    · simp [at7, e1, e2, w0, w2, w3, w4, cPow, eb]
      rw [lcGo_map (bitsOf u N) .bl .bl trivial (fun k hk => ⟨_, rfl, by simp⟩) (by simpa using hlim)]
      simp
      refine ⟨bitsOf u N, c2, p2, by simp, fin1 _ _ _ p2⟩
/-! _law_same of a value with itself -/
mutual
def W.fit : W → Nat → Bool
  | .str s, _ => s.all (· < 1114112)
  | .tup ws, n + 1 => decide (ws.length < 9000000) && fitL ws n
  | .lst ws, n + 1 => decide (ws.length < 9000000) && fitL ws n
  | .non, _ => true
  | .bl _, _ => true
  | .int _, _ => true
  | _, _ => false
def fitL : List W → Nat → Bool
  | [], _ => true
  | w :: ws, n => w.fit n && fitL ws n
end
@[simp] theorem fitL_eq (ws : List W) (n : Nat) : fitL ws n = ws.all fun w => w.fit n := by
  induction ws with
  | nil => simp [fitL]
  | cons w ws ih => simp [fitL, ih]
@[simp] theorem fit_non (n : Nat) : W.non.fit n = true := by cases n <;> simp [W.fit]
@[simp] theorem fit_bl (b : Bool) (n : Nat) : (W.bl b).fit n = true := by cases n <;> simp [W.fit]
@[simp] theorem fit_int (b : Int) (n : Nat) : (W.int b).fit n = true := by cases n <;> simp [W.fit]
@[simp] theorem fit_str (b : List Nat) (n : Nat) : (W.str b).fit n = b.all (· < 1114112) := by cases n <;> simp [W.fit]
@[simp] theorem fit_tup (ws : List W) (n : Nat) : (W.tup ws).fit (n + 1) = (decide (ws.length < 9000000) && ws.all fun w => w.fit n) := by simp [W.fit]
@[simp] theorem fit_lst (ws : List W) (n : Nat) : (W.lst ws).fit (n + 1) = (decide (ws.length < 9000000) && ws.all fun w => w.fit n) := by simp [W.fit]
theorem same_seq (C : Fn) (ws : List W) (hl : ws.length < 9000000) (st : Store) (T : List W → W) (hT : T = .tup ∨ T = .lst) (hC : ∀ w ∈ ws, C [w, w] st = .ok (.bl true) st) : runDef 3 .pur (b_Lsame C) [T ws, T ws] st = .ok (.bl true) st := by
  simp only [runDef, b_Lsame]
  rcases hT with rfl | rfl
  all_goals
    simp [hl, isT]
    generalize hr : forGo _ _ _ _ _ _ = r
  · have key : ∃ y, r = .nx [some (.tup ws), some (.tup ws), y] st := by
      rw [← hr]
      refine forGo_up (P := fun r => ∃ y, r = .nx [some (.tup ws), some (.tup ws), y] st) 0 _ (fun k env s => s = st ∧ ∃ y, env = [some (.tup ws), some (.tup ws), y]) ?_ ?_ _ _ ⟨rfl, none, rfl⟩
      · rintro k hk env s ⟨rfl, y, rfl⟩
        refine ⟨trivial, _, rfl, ?_⟩
        simp [hk, hC]
      · rintro env s ⟨rfl, y, rfl⟩
        exact ⟨trivial, _, rfl⟩
    obtain ⟨y, rfl⟩ := key
    simp
    exact fin_pur0 (by simp) (by simp)
  · have key : ∃ y, r = .nx [some (.lst ws), some (.lst ws), y] st := by
      rw [← hr]
      refine forGo_up (P := fun r => ∃ y, r = .nx [some (.lst ws), some (.lst ws), y] st) 0 _ (fun k env s => s = st ∧ ∃ y, env = [some (.lst ws), some (.lst ws), y]) ?_ ?_ _ _ ⟨rfl, none, rfl⟩
      · rintro k hk env s ⟨rfl, y, rfl⟩
        refine ⟨trivial, _, rfl, ?_⟩
        simp [hk, hC]
      · rintro env s ⟨rfl, y, rfl⟩
        exact ⟨trivial, _, rfl⟩
    obtain ⟨y, rfl⟩ := key
    simp
    exact fin_pur0 (by simp) (by simp)
theorem same_flat (C : Fn) (w : W) (h : w.flat = true) (hs : w.fit 0 = true) (st : Store) : runDef 3 .pur (b_Lsame C) [w, w] st = .ok (.bl true) st := by
  simp only [runDef, b_Lsame]
  cases w <;> simp at h <;> simp [isT] at hs ⊢
  case str s => rw [if_pos hs]; simp; exact fin_pur0 (by simp) (by simp)
  all_goals exact fin_pur0 (by simp) (by simp)
theorem same_ok (d : Nat) : ∀ (w : W), w.fit d = true → ∀ st : Store, f_Lsame (d + 1) [w, w] st = .ok (.bl true) st := by
  induction d with
  | zero =>
    intro w h st
    rw [f_Lsame]
    cases w <;> simp [W.fit] at h
    all_goals exact same_flat _ _ (by simp) (by simp [W.fit]; try exact h) st
  | succ d ih =>
    intro w h st
    rw [f_Lsame]
    generalize hC : f_Lsame (d + 1) = C at *
    cases w <;> simp [W.fit] at h
    case tup ws => exact same_seq C ws h.1 st _ (.inl rfl) fun w hw => ih w (h.2 w hw) st
    case lst ws => exact same_seq C ws h.1 st _ (.inr rfl) fun w hw => ih w (h.2 w hw) st
    all_goals exact same_flat _ _ (by simp) (by simp [W.fit]; try exact h) st
/-! tables: the inputs that matter -/
def Dep (t : List Bool) (k : Nat) : Prop := ∃ i, i < t.length ∧ t.getD i false ≠ t.getD (i ^^^ 2 ^ k) false
noncomputable def depsTo (t : List Bool) (n : Nat) : List Int := ((List.range n).filter fun k => decide (Dep t k)).map fun (k : Nat) => (k : Int)
theorem depsTo_len (t : List Bool) (n : Nat) : (depsTo t n).length ≤ n := by
  unfold depsTo; simp only [List.length_map]
  exact Nat.le_trans (List.length_filter_le _ _) (by simp)
theorem depsTo_succ (t : List Bool) (n : Nat) : depsTo t (n + 1) = if Dep t n then depsTo t n ++ [(n : Int)] else depsTo t n := by
  unfold depsTo
  rw [List.range_succ, List.filter_append, List.map_append]
  by_cases h : Dep t n <;> simp [h]
theorem mod2_bit (x : Nat) : x % 2 = if x.testBit 0 then 1 else 0 := by
  rw [Nat.testBit_zero]; simp only [decide_eq_true_eq]; split <;> omega
theorem xor_pow_eq (k : Nat) : ∀ i : Nat, i.testBit k = false → i ^^^ 2 ^ k = i + 2 ^ k := by
  induction k with
  | zero =>
    intro i h
    simp at h
    have h1 : (i ^^^ 2 ^ 0) / 2 = i / 2 := by rw [Nat.xor_div_two]; simp
    have h2 : (i ^^^ 2 ^ 0) % 2 = 1 := by rw [mod2_bit, Nat.testBit_xor]; simp [h]
    omega
  | succ k ih =>
    intro i h
    rw [Nat.testBit_succ] at h
    have h1 : (i ^^^ 2 ^ (k + 1)) / 2 = i / 2 + 2 ^ k := by
      rw [Nat.xor_div_two, show 2 ^ (k + 1) / 2 = 2 ^ k by rw [Nat.pow_succ]; omega]
      exact ih _ h
    have h2 : (i ^^^ 2 ^ (k + 1)) % 2 = i % 2 := by rw [mod2_bit, mod2_bit i, Nat.testBit_xor]; simp
    have h3 : 2 ^ (k + 1) = 2 ^ k * 2 := Nat.pow_succ _ _
    omega
theorem xor_pow_ne (k : Nat) : ∀ i : Nat, i.testBit k = true → (i ^^^ 2 ^ k) + 2 ^ k = i ∧ (i ^^^ 2 ^ k).testBit k = false := by
  intro i h
  have hb : (i ^^^ 2 ^ k).testBit k = false := by rw [Nat.testBit_xor, h, Nat.testBit_two_pow_self]; rfl
  refine ⟨?_, hb⟩
  rw [← xor_pow_eq k _ hb, Nat.xor_assoc, Nat.xor_self, Nat.xor_zero]
theorem inputs_ok (t : List Bool) (n : Nat) (h : t.length = 2 ^ n) (st : Store) : f_inputs_of [.tup (t.map .bl)] st = .ok (.int n) st := by
  simp only [f_inputs_of, runDef, b_inputs_of]
  simp [h, bitsN]
  exact fin_pur0 (by simp) (by simp)
theorem depends_ok (t : List Bool) (n : Nat) (h : t.length = 2 ^ n) (hn : n < 20) (st : Store) : f_depends_on [.tup (t.map .bl)] st = .ok (.lst ((depsTo t n).map .int)) st := by
  simp only [f_depends_on, runDef, b_depends_on]
  have hl : t.length ≤ lim := by
    rw [h]; calc 2 ^ n ≤ 2 ^ 20 := Nat.pow_le_pow_right (by omega) (by omega)
      _ ≤ lim := by unfold lim; omega
  have ir : inR (n : Int) := inR_nat _ (by omega)
  simp [inputs_ok t n h, ir]
  generalize hr : forGo _ _ _ _ _ _ = r
  have key : ∃ b c d, r = .nx [some (.tup (t.map .bl)), some (.loc st.length), b, c, d] (st ++ [.lst ((depsTo t n).map .int)]) := by
    rw [← hr]
    refine forGo_up (P := fun r => ∃ b c d, r = .nx [some (.tup (t.map .bl)), some (.loc st.length), b, c, d] (st ++ [.lst ((depsTo t n).map .int)])) 0 n (fun k env s => s = st ++ [.lst ((depsTo t k).map .int)] ∧ ∃ b c d, env = [some (.tup (t.map .bl)), some (.loc st.length), b, c, d]) ?_ ?_ _ _ ?_
    · rintro k hk env s ⟨rfl, b, c, d, rfl⟩
      refine ⟨trivial, _, rfl, ?_⟩
      simp
      rw [enumFrom_range W.bl t false]
      have hx : ∀ i, i < t.length → i ^^^ 2 ^ k < t.length := fun i hi => by
        rw [h] at hi ⊢
        exact Nat.xor_lt_two_pow hi (Nat.pow_lt_pow_right (by omega) hk)
      have cp : cPow 1 (k : Int) := by simp [cPow]; omega
      rw [lcGo_of (List.range t.length) _ (fun i => t.getD i false != t.getD (i ^^^ 2 ^ k) false) (fun i => .bl (t.getD i false)) trivial (fun i hi => ⟨_, rfl, by
        simp at hi
        have h1 := hx i hi
        simp [cp, h1, hi, bne], by simp⟩) [] (by simpa using hl)]
      have hb : (List.filter (fun i => t.getD i false != t.getD (i ^^^ 2 ^ k) false) (List.range t.length)) = [] ↔ ¬ Dep t k := by
        rw [List.filter_eq_nil_iff]
        unfold Dep
        simp only [List.mem_range, bne_iff_ne, ne_eq, not_exists, not_and, Decidable.not_not]
      generalize (List.filter (fun i => t.getD i false != t.getD (i ^^^ 2 ^ k) false) (List.range t.length)) = l at *
      have hl2 : (depsTo t k).length < lim := by have := depsTo_len t k; unfold lim; omega
      rw [depsTo_succ]
      by_cases h : Dep t k
      · rw [if_pos h]
        have h2 : l ≠ [] := fun e => hb.1 e h
        cases l with
        | nil => exact absurd rfl h2
        | cons x l => simp [hl2]
      · rw [if_neg h, hb.2 h]
        simp
    · rintro env s ⟨rfl, b, c, d, rfl⟩
      exact ⟨trivial, _, _, _, rfl⟩
    · exact ⟨by simp [depsTo], none, none, none, by simp⟩
  obtain ⟨b, c, d, rfl⟩ := key
  simp
  exact fin_new (st := st) (ws := (depsTo t n).map .int) [.lst ((depsTo t n).map .int)] 0 (by simp) (by simp)
/-! k11 -/
def Dep2 (t : List Bool) (k : Nat) : Prop := ∃ i, i < t.length ∧ i.testBit k = false ∧ t.getD i false ≠ t.getD (i + 2 ^ k) false
theorem dep2_iff (t : List Bool) (n k : Nat) (h : t.length = 2 ^ n) (hk : k < n) : Dep2 t k ↔ Dep t k := by
  constructor
  · rintro ⟨i, hi, hb, hne⟩
    exact ⟨i, hi, by rw [xor_pow_eq k i hb]; exact hne⟩
  · rintro ⟨i, hi, hne⟩
    cases hb : i.testBit k
    · exact ⟨i, hi, hb, by rw [← xor_pow_eq k i hb]; exact hne⟩
    · obtain ⟨h1, h2⟩ := xor_pow_ne k i hb
      exact ⟨i ^^^ 2 ^ k, by have := Nat.le_add_right (i ^^^ 2 ^ k) (2 ^ k); omega, h2, by rw [h1]; exact hne.symm⟩
theorem due_ok (t : List Bool) (n : Nat) (h : t.length = 2 ^ n) (hn : n < 7) (st : Store) : f_Ldue [.tup (t.map .bl), .int n] st = .ok (.lst ((depsTo t n).map .int)) st := by
  simp only [f_Ldue, runDef, b_Ldue]
  have hl : t.length ≤ 64 := by
    rw [h]; calc 2 ^ n ≤ 2 ^ 6 := Nat.pow_le_pow_right (by omega) (by omega)
      _ = 64 := rfl
  have ir : inR (n : Int) := inR_nat _ (by omega)
  have ir2 : inR (t.length : Int) := inR_nat _ (by omega)
  simp [ir]
  generalize hr : forGo _ _ _ _ _ _ = r
  have key : ∃ b c d, r = .nx [some (.tup (t.map .bl)), some (.int n), some (.loc st.length), b, c, d] (st ++ [.lst ((depsTo t n).map .int)]) := by
    rw [← hr]
    refine forGo_up (P := fun r => ∃ b c d, r = .nx [some (.tup (t.map .bl)), some (.int n), some (.loc st.length), b, c, d] (st ++ [.lst ((depsTo t n).map .int)])) 0 n (fun k env s => s = st ++ [.lst ((depsTo t k).map .int)] ∧ ∃ b c d, env = [some (.tup (t.map .bl)), some (.int n), some (.loc st.length), b, c, d]) ?_ ?_ _ _ ?_
    · rintro k hk env s ⟨rfl, b, c, d, rfl⟩
      refine ⟨trivial, _, rfl, ?_⟩
      have hl2 : (depsTo t k).length < lim := by have := depsTo_len t k; unfold lim; omega
      simp [pow6_at k (by omega), ir2]
      generalize hr : forGo _ _ _ _ _ _ = r
      have key : ∃ b c d, r = .nx [some (.tup (t.map .bl)), some (.int n), some (.loc st.length), b, c, d] (st ++ [.lst ((depsTo t (k + 1)).map .int)]) := by
        rw [← hr, depsTo_succ]
        refine forGo_up (P := fun r => ∃ b c d, r = .nx [some (.tup (t.map .bl)), some (.int n), some (.loc st.length), b, c, d] (st ++ [.lst ((if Dep t k then depsTo t k ++ [(k : Int)] else depsTo t k).map .int)])) 0 t.length (fun j env s => s = st ++ [.lst ((depsTo t k).map .int)] ∧ (∀ i, i < j → i.testBit k = false → t.getD i false = t.getD (i + 2 ^ k) false) ∧ ∃ b, env = [some (.tup (t.map .bl)), some (.int n), some (.loc st.length), some (.int k), some (.int (2 ^ k)), b]) ?_ ?_ _ _ ?_
        · rintro j hj env s ⟨rfl, hI, b, rfl⟩
          refine ⟨trivial, _, rfl, ?_⟩
          have hk9 : k < 9000 := by omega
          cases hb : j.testBit k
          · have hx : j + 2 ^ k < t.length := by
              rw [← xor_pow_eq k j hb, h]
              rw [h] at hj
              exact Nat.xor_lt_two_pow hj (Nat.pow_lt_pow_right (by omega) hk)
            have atx : atW (t.map .bl) ((j : Int) + 2 ^ k) = some (.bl (t.getD (j + 2 ^ k) false)) := by
              rw [pow2_cast, ← Int.natCast_add, atW_nat _ _ (by simpa using hx)]
              simp [hx]
            by_cases hne : t.getD j false = t.getD (j + 2 ^ k) false
            · have hv : (W.bl t[j]).eqv (.bl (t.getD (j + 2 ^ k) false)) = true := by simp [hj, hx] at hne ⊢; exact hne
              simp [-eqv_bl, hk9, shr_even, hb, atx, hj, hv, -List.getD_eq_getElem?_getD]
              intro i hi hib
              by_cases e : i = j
              · subst e; exact hne
              · exact hI i (by omega) hib
            · have hv : (W.bl t[j]).eqv (.bl (t.getD (j + 2 ^ k) false)) = false := by simp [hj, hx] at hne ⊢; exact hne
              have hd : Dep t k := (dep2_iff t n k h hk).1 ⟨j, hj, hb, hne⟩
              simp [-eqv_bl, hk9, shr_even, hb, atx, hj, hv, hd, hl2, -List.getD_eq_getElem?_getD]
          · simp [hk9, shr_even, hb]
            intro i hi hib
            have : i ≠ j := fun e => by rw [e, hb] at hib; cases hib
            simpa using hI i (by omega) hib
        · rintro env s ⟨rfl, hI, b, rfl⟩
          refine ⟨trivial, some (.int k), some (.int (2 ^ k)), b, ?_⟩
          rw [if_neg]
          intro hd
          obtain ⟨i, h1, h2, h3⟩ := (dep2_iff t n k h hk).2 hd
          exact h3 (hI i h1 h2)
        · exact ⟨rfl, fun i hi => absurd hi (by omega), _, rfl⟩
      obtain ⟨b, c, d, rfl⟩ := key
      simp
    · rintro env s ⟨rfl, b, c, d, rfl⟩
      exact ⟨trivial, _, _, _, rfl⟩
    · exact ⟨by simp [depsTo], none, none, none, by simp⟩
  obtain ⟨b, c, d, rfl⟩ := key
  simp
  exact fin_new (st := st) (ws := (depsTo t n).map .int) [.lst ((depsTo t n).map .int)] 0 (by simp) (by simp)

/-- the place in the smaller table -/
def small (a i : Nat) : Nat := i / (2 * 2 ^ a) * 2 ^ a + i % 2 ^ a
theorem small_lt (n a i : Nat) (ha : a ≤ n) (hi : i < 2 ^ n * 2) : small a i < 2 ^ n := by
  unfold small
  obtain ⟨m, rfl⟩ : ∃ m, n = a + m := ⟨n - a, by omega⟩
  have hp : 0 < 2 ^ a := Nat.pow_pos (by omega)
  have h1 : i / (2 * 2 ^ a) < 2 ^ m := by
    rw [Nat.div_lt_iff_lt_mul (by omega)]
    rw [Nat.pow_add] at hi
    calc i < 2 ^ a * 2 ^ m * 2 := hi
      _ = 2 ^ m * (2 * 2 ^ a) := by rw [Nat.mul_comm (2 ^ a), Nat.mul_assoc, Nat.mul_comm (2 ^ a) 2]
  have h2 : i % 2 ^ a < 2 ^ a := Nat.mod_lt _ hp
  have h3 : (i / (2 * 2 ^ a) + 1) * 2 ^ a ≤ 2 ^ m * 2 ^ a := Nat.mul_le_mul_right _ h1
  rw [Nat.pow_add, Nat.mul_comm (2 ^ a) (2 ^ m)]
  rw [Nat.add_mul, Nat.one_mul] at h3
  omega
theorem small_add (a i : Nat) (h : i.testBit a = false) : small a (i + 2 ^ a) = small a i := by
  unfold small
  have hp : 0 < 2 ^ a := Nat.pow_pos (by omega)
  have h1 : (i + 2 ^ a) % 2 ^ a = i % 2 ^ a := by simp
  have h2 : (i + 2 ^ a) / (2 * 2 ^ a) = i / (2 * 2 ^ a) := by
    rw [Nat.mul_comm, ← Nat.div_div_eq_div_mul, ← Nat.div_div_eq_div_mul, Nat.add_div_right _ hp]
    have := div_testBit i a
    rw [h] at this
    have : ¬ i / 2 ^ a % 2 = 1 := fun e => by simpa using this.1 e
    omega
  rw [h1, h2]
theorem small_xor (a i : Nat) : small a (i ^^^ 2 ^ a) = small a i := by
  cases h : i.testBit a
  · rw [xor_pow_eq a i h]; exact small_add a i h
  · obtain ⟨h1, h2⟩ := xor_pow_ne a i h
    rw [← small_add a _ h2, h1]
def wide (t : List Bool) (a : Nat) : List Bool := (List.range (2 * t.length)).map fun i => t.getD (small a i) false
theorem wide_dep (t : List Bool) (n a : Nat) (h : t.length = 2 ^ n) (ha : a ≤ n) : ¬ Dep (wide t a) a := by
  rintro ⟨i, hi, hne⟩
  apply hne
  unfold wide at hi ⊢
  simp at hi
  have hx : i ^^^ 2 ^ a < 2 * t.length := by
    have e : 2 * t.length = 2 ^ (n + 1) := by rw [h, Nat.pow_succ]; omega
    rw [e] at hi ⊢
    exact Nat.xor_lt_two_pow hi (Nat.pow_lt_pow_right (by omega) (by omega))
  simp [hi, hx, small_xor]
theorem wide_ok (t : List Bool) (n a : Nat) (h : t.length = 2 ^ n) (hn : n < 6) (ha : a ≤ n) (st : Store) : f_Lwidened [.tup (t.map .bl), .int a] st = .ok (.tup ((wide t a).map .bl)) st := by
  simp only [f_Lwidened, runDef, b_Lwidened]
  have hl : t.length ≤ 32 := by
    rw [h]; calc 2 ^ n ≤ 2 ^ 5 := Nat.pow_le_pow_right (by omega) (by omega)
      _ = 32 := rfl
  have ir : inR (2 * (t.length : Int)) := by unfold inR; omega
  have e2 : (2 * (t.length : Int)).toNat = 2 * t.length := by omega
  simp [ir, pow6_at a (by omega), e2]
  generalize hr : forGo _ _ _ _ _ _ = r
  have key : ∃ b c d e, r = .nx [b, c, d, some (.loc st.length), e] (st ++ [.lst ((wide t a).map .bl)]) := by
    rw [← hr]
    refine forGo_up (P := fun r => ∃ b c d e, r = .nx [b, c, d, some (.loc st.length), e] (st ++ [.lst ((wide t a).map .bl)])) 0 (2 * t.length) (fun k env s => s = st ++ [.lst (((List.range k).map fun i => t.getD (small a i) false).map .bl)] ∧ ∃ b, env = [some (.tup (t.map .bl)), some (.int a), some (.int (2 ^ a)), some (.loc st.length), b]) ?_ ?_ _ _ ?_
    · rintro k hk env s ⟨rfl, b, rfl⟩
      refine ⟨trivial, _, rfl, ?_⟩
      have hlim : k < lim := by unfold lim; omega
      have hs : small a k < t.length := by rw [h]; exact small_lt n a k ha (by rw [← h]; omega)
      have atx : atW (t.map .bl) ((k : Int) / (2 * 2 ^ a) * 2 ^ a + (k : Int) % 2 ^ a) = some (.bl (t.getD (small a k) false)) := by
        have : ((k : Int) / (2 * 2 ^ a) * 2 ^ a + (k : Int) % 2 ^ a) = (small a k : Nat) := by unfold small; simp
        rw [this, atW_nat _ _ (by simpa using hs)]
        simp [hs]
      have lg : (2 * (2 : Int) ^ a).natAbs.log2 < 9000 := by
        have := log_2pow (a + 1) (by omega)
        rw [Int.pow_succ, Int.mul_comm] at this; exact this
      have pp2 : (0 : Int) < 2 * 2 ^ a := by have := pow2_pos a; omega
      have b0 : -18446744073709551616 < (2 : Int) ^ a := by have := pow2_pos a; omega
      have b1 : (2 : Int) ^ a < 18446744073709551616 := by
        have : 2 ^ a ≤ 2 ^ 5 := Nat.pow_le_pow_right (by omega) (by omega)
        rw [pow2_cast]; omega
      simp [lg, atx, hlim, List.range_succ, pp2, b0, b1]
    · rintro env s ⟨rfl, b, rfl⟩
      exact ⟨trivial, _, _, _, _, rfl⟩
    · exact ⟨by simp, none, rfl⟩
  obtain ⟨b, c, d, e, rfl⟩ := key
  simp
  exact fin_pur _ (by simp) (by simp)
theorem law_true (ns : List Int) (h : ns.length ≤ 63) : f_law [.ro (ns.map .int)] [] = .ok (.bl true) [] := by
  simp only [f_law, runDef, b_law]
  obtain ⟨c, hc, ep⟩ := pool_ok ns h
  simp [ep]
  generalize hr : forGo _ _ _ _ _ _ = r
  have key : ∃ e s, r = .nx e s := by
    rw [← hr]
    refine forGo_up (P := fun r => ∃ e s, r = .nx e s) 0 _ (fun k env s => (∃ c, Pool c ∧ s = [c]) ∧ ∃ x a b c d e, env = [x, some (.loc 0), a, b, c, d, e]) ?_ ?_ _ _ ⟨⟨c, hc, rfl⟩, _, _, _, _, _, _, rfl⟩
    · rintro k hk env s ⟨⟨c, hc, rfl⟩, x, a, b, c, d, e, rfl⟩
      refine ⟨trivial, _, rfl, ?_⟩
      obtain ⟨n, c1, p1, e1, l1⟩ := draw_nat hc 7 (by omega) (by omega) []
      obtain ⟨t, c2, p2, lt, e2⟩ := table_ok p1 n (by omega) []
      obtain ⟨m, c3, p3, e3, l3⟩ := draw_nat p2 3 (by omega) (by omega) []
      have ir : inR (m : Int) := inR_nat _ (by omega)
      simp [e1, e2, e3, ir]
      generalize hr : forGo _ _ _ _ _ _ = r
      have key : ∃ (n : Nat) (t : List Bool) (e : Env) (c : Cell), r = .nx e [c] ∧ Pool c ∧ n < 7 ∧ t.length = 2 ^ n ∧ ∃ x a b d, e = [x, some (.loc 0), a, some (.int n), some (.tup (t.map .bl)), b, d] := by
        rw [← hr]
        refine forGo_up (P := fun r => ∃ (n : Nat) (t : List Bool) (e : Env) (c : Cell), r = .nx e [c] ∧ Pool c ∧ n < 7 ∧ t.length = 2 ^ n ∧ ∃ x a b d, e = [x, some (.loc 0), a, some (.int n), some (.tup (t.map .bl)), b, d]) 0 m (fun k env s => ∃ (n : Nat) (t : List Bool) (c : Cell), s = [c] ∧ Pool c ∧ n < 7 ∧ t.length = 2 ^ n ∧ ∃ x a b d, env = [x, some (.loc 0), a, some (.int n), some (.tup (t.map .bl)), b, d]) ?_ ?_ _ _ ⟨n, t, c3, rfl, p3, by omega, lt, _, _, _, _, rfl⟩
        · rintro k hk env s ⟨n, t, c, rfl, hc, hn, lt, x, a, b, d, rfl⟩
          refine ⟨trivial, _, rfl, ?_⟩
          by_cases h6 : n < 6
          · obtain ⟨at', c1, p1, e1, l1⟩ := draw_nat hc ((n : Int) + 1) (by omega) (by omega) []
            have e2 := wide_ok t n at' lt h6 (by omega) [c1]
            have e3 := depends_ok (wide t at') (n + 1) (by simp [wide, lt, Nat.pow_succ]; omega) (by omega) [c1]
            have ns : ((at' : Nat) : Int) ∉ depsTo (wide t at') (n + 1) := by
              unfold depsTo
              intro hm
              rw [List.mem_map] at hm
              obtain ⟨j, hj, e⟩ := hm
              have : j = at' := by omega
              subst this
              rw [List.mem_filter] at hj
              exact wide_dep t n j lt (by omega) (by simpa using hj.2)
            have h6' : (n : Int) < 6 := by omega
            simp [h6', e1, e2, e3, ns]
            exact ⟨p1, n + 1, by omega, wide t at', by simp [wide, lt, Nat.pow_succ]; omega, by simp⟩
          · have h6' : ¬ (n : Int) < 6 := by omega
            simp [h6']
            exact ⟨hc, n, hn, t, lt, by simp⟩
        · rintro env s ⟨n, t, c, rfl, hc, hn, lt, x, a, b, d, rfl⟩
          exact ⟨trivial, n, t, _, _, rfl, hc, hn, lt, _, _, _, _, rfl⟩
      obtain ⟨n, t, e, c, rfl, hc, hn, lt, x, a, b, d, rfl⟩ := key
      have fit : (W.lst ((depsTo t n).map .int)).fit 7 = true := by have := depsTo_len t n; simp; omega
      simp [depends_ok t n lt (by omega), due_ok t n lt hn, same_ok 7 _ fit]
      exact hc
    · rintro env s ⟨-, -⟩
      exact ⟨trivial, _, _, rfl⟩
  obtain ⟨e, s, rfl⟩ := key
  simp [fin, OldOk]
end M

-- Deriv
set_option Elab.async false
set_option linter.all false
set_option maxRecDepth 100000
set_option maxHeartbeats 4000000
namespace M
open PySem L2
def topS (i : Nat) : Stmt := PySem.Challenge.pw_signoff_k11_inputs_that_matter.main.body.getD i (.Pass ⟨0, 0, 0, 0⟩)
abbrev s_Lpool : Stmt := topS 4
abbrev N_Lpool : List Str := ["_law_script", "_law_salt", "_law_cell"]
theorem sc_Lpool : FnScope N_Lpool ["_law_script"] (defScope s_Lpool) := ⟨rfl, rfl, rfl, by decide +kernel, rfl, by decide +kernel, by decide +kernel⟩
abbrev s_Lspread : Stmt := topS 5
abbrev N_Lspread : List Str := ["_law_cell", "_law_mixed", "_law_total", "_law_k"]
theorem sc_Lspread : FnScope N_Lspread ["_law_cell"] (defScope s_Lspread) := ⟨rfl, rfl, rfl, by decide +kernel, rfl, by decide +kernel, by decide +kernel⟩
abbrev s_Ldraw : Stmt := topS 6
abbrev N_Ldraw : List Str := ["_law_pool_here", "_law_many", "_law_cell", "_law_mixed", "_law_value"]
theorem sc_Ldraw : FnScope N_Ldraw ["_law_pool_here", "_law_many"] (defScope s_Ldraw) := ⟨rfl, rfl, rfl, by decide +kernel, rfl, by decide +kernel, by decide +kernel⟩
abbrev s_Lbits : Stmt := topS 8
abbrev N_Lbits : List Str := ["_law_index", "_law_many", "_law_out", "_law_k"]
theorem sc_Lbits : FnScope N_Lbits ["_law_index", "_law_many"] (defScope s_Lbits) := ⟨rfl, rfl, rfl, by decide +kernel, rfl, by decide +kernel, by decide +kernel⟩
abbrev s_Ltable : Stmt := topS 9
abbrev N_Ltable : List Str := ["_law_pool_here", "_law_many", "_law_size", "_law_kind", "_law_value", "_law_low", "_law_place", "_law_number", "_law_bit", "_law_k"]
theorem sc_Ltable : FnScope N_Ltable ["_law_pool_here", "_law_many"] (defScope s_Ltable) := ⟨rfl, rfl, rfl, by decide +kernel, rfl, by decide +kernel, by decide +kernel⟩
abbrev s_Lsame : Stmt := topS 7
abbrev N_Lsame : List Str := ["_law_actual", "_law_due_here", "_law_k"]
theorem sc_Lsame : FnScope N_Lsame ["_law_actual", "_law_due_here"] (defScope s_Lsame) := ⟨rfl, rfl, rfl, by decide +kernel, rfl, by decide +kernel, by decide +kernel⟩
abbrev s_Lwidened : Stmt := topS 10
abbrev N_Lwidened : List Str := ["_law_table_here", "_law_k", "_law_low", "_law_out", "_law_index"]
theorem sc_Lwidened : FnScope N_Lwidened ["_law_table_here", "_law_k"] (defScope s_Lwidened) := ⟨rfl, rfl, rfl, by decide +kernel, rfl, by decide +kernel, by decide +kernel⟩
abbrev s_inputs_of : Stmt := topS 1
abbrev N_inputs_of : List Str := ["table"]
theorem sc_inputs_of : FnScope N_inputs_of ["table"] (defScope s_inputs_of) := ⟨rfl, rfl, rfl, by decide +kernel, rfl, by decide +kernel, by decide +kernel⟩
abbrev s_depends_on : Stmt := topS 2
abbrev N_depends_on : List Str := ["table", "found", "k", "index", "row"]
theorem sc_depends_on : FnScope N_depends_on ["table"] (defScope s_depends_on) := ⟨rfl, rfl, rfl, by decide +kernel, rfl, by decide +kernel, by decide +kernel⟩
abbrev s_Ldue : Stmt := topS 11
abbrev N_Ldue : List Str := ["_law_table_here", "_law_many", "_law_found", "_law_k", "_law_low", "_law_index"]
theorem sc_Ldue : FnScope N_Ldue ["_law_table_here", "_law_many"] (defScope s_Ldue) := ⟨rfl, rfl, rfl, by decide +kernel, rfl, by decide +kernel, by decide +kernel⟩
abbrev s_law : Stmt := topS 12
abbrev N_law : List Str := ["_law_script", "_law_pool_here", "_law_turn", "_law_many", "_law_table_here", "_law_k", "_law_at"]
theorem sc_law : FnScope N_law ["_law_script"] (defScope s_law) := ⟨rfl, rfl, rfl, by decide +kernel, rfl, by decide +kernel, by decide +kernel⟩
structure Txt (K : PySem.W.Frag) (mg : Str → Option Value) where
  a_Lpool : Addr
  d_Lpool : FuncData
  F_Lpool : Fun K "_law_pool" "_law_pool" s_Lpool a_Lpool d_Lpool
  m_Lpool : mg "_law_pool" = some (.ref a_Lpool)
  b_Lpool : Binds K d_Lpool ["_law_script"] []
  a_Lspread : Addr
  d_Lspread : FuncData
  F_Lspread : Fun K "_law_spread" "_law_spread" s_Lspread a_Lspread d_Lspread
  m_Lspread : mg "_law_spread" = some (.ref a_Lspread)
  b_Lspread : Binds K d_Lspread ["_law_cell"] []
  a_Ldraw : Addr
  d_Ldraw : FuncData
  F_Ldraw : Fun K "_law_draw" "_law_draw" s_Ldraw a_Ldraw d_Ldraw
  m_Ldraw : mg "_law_draw" = some (.ref a_Ldraw)
  b_Ldraw : Binds K d_Ldraw ["_law_pool_here", "_law_many"] []
  a_Lbits : Addr
  d_Lbits : FuncData
  F_Lbits : Fun K "_law_bits" "_law_bits" s_Lbits a_Lbits d_Lbits
  m_Lbits : mg "_law_bits" = some (.ref a_Lbits)
  b_Lbits : Binds K d_Lbits ["_law_index", "_law_many"] []
  a_Ltable : Addr
  d_Ltable : FuncData
  F_Ltable : Fun K "_law_table" "_law_table" s_Ltable a_Ltable d_Ltable
  m_Ltable : mg "_law_table" = some (.ref a_Ltable)
  b_Ltable : Binds K d_Ltable ["_law_pool_here", "_law_many"] []
  a_Lsame : Addr
  d_Lsame : FuncData
  F_Lsame : Fun K "_law_same" "_law_same" s_Lsame a_Lsame d_Lsame
  m_Lsame : mg "_law_same" = some (.ref a_Lsame)
  b_Lsame : Binds K d_Lsame ["_law_actual", "_law_due_here"] []
  a_Lwidened : Addr
  d_Lwidened : FuncData
  F_Lwidened : Fun K "_law_widened" "_law_widened" s_Lwidened a_Lwidened d_Lwidened
  m_Lwidened : mg "_law_widened" = some (.ref a_Lwidened)
  b_Lwidened : Binds K d_Lwidened ["_law_table_here", "_law_k"] []
  a_inputs_of : Addr
  d_inputs_of : FuncData
  F_inputs_of : Fun K "inputs_of" "inputs_of" s_inputs_of a_inputs_of d_inputs_of
  m_inputs_of : mg "inputs_of" = some (.ref a_inputs_of)
  b_inputs_of : Binds K d_inputs_of ["table"] []
  a_depends_on : Addr
  d_depends_on : FuncData
  F_depends_on : Fun K "depends_on" "depends_on" s_depends_on a_depends_on d_depends_on
  m_depends_on : mg "depends_on" = some (.ref a_depends_on)
  b_depends_on : Binds K d_depends_on ["table"] []
  a_Ldue : Addr
  d_Ldue : FuncData
  F_Ldue : Fun K "_law_due" "_law_due" s_Ldue a_Ldue d_Ldue
  m_Ldue : mg "_law_due" = some (.ref a_Ldue)
  b_Ldue : Binds K d_Ldue ["_law_table_here", "_law_many"] []
  z_bool : mg "bool" = none
  z_enumerate : mg "enumerate" = none
  z_int : mg "int" = none
  z_isinstance : mg "isinstance" = none
  z_len : mg "len" = none
  z_list : mg "list" = none
  z_range : mg "range" = none
  z_str : mg "str" = none
  z_tuple : mg "tuple" = none
section
variable {P : Program} {wo : World} {Γ : Gm} {mg : Str → Option Value} {base : Heap}
theorem ok_Lpool (T : Txt Γ.K mg) : FnOk P wo Γ.K mg base (L2.CX P wo) 1 T.a_Lpool T.d_Lpool ["_law_script"] (spI Γ 1 f_Lpool) := by
  have key : FnOk P wo Γ.K mg base (L2.CX P wo) (0 + 1) T.a_Lpool T.d_Lpool ["_law_script"] (spI Γ (["_law_script"] : List Str).length (runDef N_Lpool.length .lst (b_Lpool))) := by
    refine fn_i (m := .lst) (ς := b_Lpool) T.F_Lpool sc_Lpool (fun cdv A outer s H E hr => ?_)
    have tk : Takes (cxOf (L2.CX P wo) P wo Γ.K mg base N_Lpool "_law_pool" (defScope s_Lpool) T.a_Lpool cdv A outer s H E) (fun c d _ H' => E c d H') := takes_of rfl rfl rfl rfl
    unfold b_Lpool
    exact (p_cons (s_set (i := 1) sc_Lpool.nd i_int)
    (p_cons (s_for (passes_of rfl) rfl (w_seq rfl (i_lst (l_sl rfl (i_var 0) o_none (o_some i_int)))) (g_name 2 sc_Lpool.nd)
    (p_one (s_set (i := 1) sc_Lpool.nd (i_op op_mod sem_mod (i_ct call_int1 sem_int T.z_int (a_cons (i_op add_any sem_add (i_op mul_any sem_mul (i_var 1) i_int) (i_var 2)) a_nil)) i_int))))
    (p_one (s_ret (i_new (l_lst (a_cons (i_lst (l_list rfl rfl T.z_list (i_var 0))) (a_cons i_int (a_cons i_int (a_cons i_int (a_cons (i_var 1) a_nil)))))))))))
  exact key
theorem ok_Lspread (T : Txt Γ.K mg) : FnOk P wo Γ.K mg base (L2.CX P wo) 1 T.a_Lspread T.d_Lspread ["_law_cell"] (spI Γ 1 f_Lspread) := by
  have key : FnOk P wo Γ.K mg base (L2.CX P wo) (0 + 1) T.a_Lspread T.d_Lspread ["_law_cell"] (spI Γ (["_law_cell"] : List Str).length (runDef N_Lspread.length .pur (b_Lspread))) := by
    refine fn_i (m := .pur) (ς := b_Lspread) T.F_Lspread sc_Lspread (fun cdv A outer s H E hr => ?_)
    have tk : Takes (cxOf (L2.CX P wo) P wo Γ.K mg base N_Lspread "_law_spread" (defScope s_Lspread) T.a_Lspread cdv A outer s H E) (fun c d _ H' => E c d H') := takes_of rfl rfl rfl rfl
    unfold b_Lspread
    exact (p_cons (s_set (i := 1) sc_Lspread.nd (i_op op_mod sem_mod (i_ct call_int1 sem_int T.z_int (a_cons (i_var 0) a_nil)) i_int))
    (p_cons (s_set (i := 2) sc_Lspread.nd i_int)
    (p_cons (s_for (passes_of rfl) rfl (w_range1 T.z_range (a_cons i_int a_nil)) (g_name 3 sc_Lspread.nd)
    (p_cons (s_set (i := 1) sc_Lspread.nd (i_op op_mod sem_mod (i_ct call_int1 sem_int T.z_int (a_cons (i_op add_any sem_add (i_op add_any sem_add (i_op mul_any sem_mul (i_var 1) i_int) i_int) (i_var 3)) a_nil)) i_int))
    (p_one (s_set (i := 2) sc_Lspread.nd (i_op add_any sem_add (i_op mul_any sem_mul (i_var 2) i_int) (i_var 1))))))
    (p_one (s_ret (i_var 2))))))
  exact key
theorem ok_Ldraw (T : Txt Γ.K mg) : FnOk P wo Γ.K mg base (L2.CX P wo) 2 T.a_Ldraw T.d_Ldraw ["_law_pool_here", "_law_many"] (spI Γ 2 f_Ldraw) := by
  have key : FnOk P wo Γ.K mg base (L2.CX P wo) (1 + 1) T.a_Ldraw T.d_Ldraw ["_law_pool_here", "_law_many"] (spI Γ (["_law_pool_here", "_law_many"] : List Str).length (runDef N_Ldraw.length .pur (b_Ldraw))) := by
    refine fn_i (m := .pur) (ς := b_Ldraw) T.F_Ldraw sc_Ldraw (fun cdv A outer s H E hr => ?_)
    have tk : Takes (cxOf (L2.CX P wo) P wo Γ.K mg base N_Ldraw "_law_draw" (defScope s_Ldraw) T.a_Ldraw cdv A outer s H E) (fun c d _ H' => E c d H') := takes_of rfl rfl rfl rfl
    unfold b_Ldraw
    exact (p_cons (s_if (PW.pt (jw_and (j_cmp op_le sem_le (i_ix rfl (i_var 0) i_int) i_int (nomark _)) (pw_and1 (j_cmp op_lt sem_lt (i_ix rfl (i_var 0) i_int) (i_cb call_len sem_len T.z_len (a_cons (i_ix rfl (i_var 0) i_int) a_nil)) (nomark _))))) (p_cons (s_set (i := 2) sc_Ldraw.nd (i_ix rfl (i_ix rfl (i_var 0) i_int) (i_ix rfl (i_var 0) i_int)))
    (p_cons (s_setIx (i_op add_any sem_add (i_ix rfl (i_var 0) i_int) i_int) (i_var 0) i_int set_list (pg_sub (i_var 0) i_int set_list))
    (p_cons (s_setIx (i_var 2) (i_var 0) i_int set_list (pg_sub (i_var 0) i_int set_list))
    (p_one (s_if (j_cmp op_lt sem_lt (i_var 2) i_int (nomark _)) (p_one (s_setIx (i_call (ok_Lspread T) (hr.mono (by omega)) T.m_Lspread T.F_Lspread.kp T.b_Lspread tk (a_cons (i_var 2) a_nil)) (i_var 0) i_int set_list (pg_sub (i_var 0) i_int set_list)))
    p_nil)))))
    p_nil)
    (p_cons (s_setIx (i_op add_any sem_add (i_ix rfl (i_var 0) i_int) i_int) (i_var 0) i_int set_list (pg_sub (i_var 0) i_int set_list))
    (p_cons (s_if (j_cmp op_le sem_le (i_ix rfl (i_var 0) i_int) i_int (nomark _)) (p_cons (s_set (i := 3) sc_Ldraw.nd (i_op op_mod sem_mod (i_ct call_int1 sem_int T.z_int (a_cons (i_op add_any sem_add (i_op add_any sem_add (i_op mul_any sem_mul (i_ix rfl (i_var 0) i_int) i_int) (i_op mul_any sem_mul (i_ix rfl (i_var 0) i_int) i_int)) i_int) a_nil)) i_int))
    (p_cons (s_set (i := 3) sc_Ldraw.nd (i_op op_mod sem_mod (i_ct call_int1 sem_int T.z_int (a_cons (i_op add_any sem_add (i_op mul_any sem_mul (i_var 3) i_int) (i_ix rfl (i_var 0) i_int)) a_nil)) i_int))
    (p_one (s_ret (i_op op_mod sem_mod (i_op op_fdivW sem_div (i_var 3) i_int) (i_var 1))))))
    p_nil)
    (p_cons (s_set (i := 4) sc_Ldraw.nd (i_op op_mod sem_mod (i_ct call_int1 sem_int T.z_int (a_cons (i_ix rfl (i_var 0) i_int) a_nil)) (i_var 1)))
    (p_cons (s_setIx (i_op op_fdivW sem_div (i_ix rfl (i_var 0) i_int) (i_var 1)) (i_var 0) i_int set_list (pg_sub (i_var 0) i_int set_list))
    (p_one (s_ret (i_var 4))))))))
  exact key
theorem ok_Lbits (T : Txt Γ.K mg) : FnOk P wo Γ.K mg base (L2.CX P wo) 1 T.a_Lbits T.d_Lbits ["_law_index", "_law_many"] (spI Γ 2 f_Lbits) := by
  have key : FnOk P wo Γ.K mg base (L2.CX P wo) (0 + 1) T.a_Lbits T.d_Lbits ["_law_index", "_law_many"] (spI Γ (["_law_index", "_law_many"] : List Str).length (runDef N_Lbits.length .pur (b_Lbits))) := by
    refine fn_i (m := .pur) (ς := b_Lbits) T.F_Lbits sc_Lbits (fun cdv A outer s H E hr => ?_)
    have tk : Takes (cxOf (L2.CX P wo) P wo Γ.K mg base N_Lbits "_law_bits" (defScope s_Lbits) T.a_Lbits cdv A outer s H E) (fun c d _ H' => E c d H') := takes_of rfl rfl rfl rfl
    unfold b_Lbits
    exact (p_cons (s_set (i := 2) sc_Lbits.nd (i_new (l_lst a_nil)))
    (p_cons (s_for (passes_of rfl) rfl (w_range1 T.z_range (a_cons (i_var 1) a_nil)) (g_name 3 sc_Lbits.nd)
    (p_cons (s_expr (i_bm rfl PySem.F.plainAttrs_list PySem.F.slot_list_append PySem.F.type_list_append mt_append sem_app (i_var 2) (a_cons (i_cmp (op_eqD hr.units) sem_eq (i_op op_mod sem_mod (i_ct call_int1 sem_int T.z_int (a_cons (i_var 0) a_nil)) i_int) i_int (nomark _)) a_nil)))
    (p_one (s_set (i := 0) sc_Lbits.nd (i_op op_fdivW sem_div (i_var 0) i_int)))))
    (p_one (s_ret (i_ct call_tuple_of sem_tup T.z_tuple (a_cons (i_var 2) a_nil))))))
  exact key
theorem ok_Ltable (T : Txt Γ.K mg) : FnOk P wo Γ.K mg base (L2.CX P wo) 3 T.a_Ltable T.d_Ltable ["_law_pool_here", "_law_many"] (spI Γ 2 f_Ltable) := by
  have key : FnOk P wo Γ.K mg base (L2.CX P wo) (2 + 1) T.a_Ltable T.d_Ltable ["_law_pool_here", "_law_many"] (spI Γ (["_law_pool_here", "_law_many"] : List Str).length (runDef N_Ltable.length .pur (b_Ltable))) := by
    refine fn_i (m := .pur) (ς := b_Ltable) T.F_Ltable sc_Ltable (fun cdv A outer s H E hr => ?_)
    have tk : Takes (cxOf (L2.CX P wo) P wo Γ.K mg base N_Ltable "_law_table" (defScope s_Ltable) T.a_Ltable cdv A outer s H E) (fun c d _ H' => E c d H') := takes_of rfl rfl rfl rfl
    unfold b_Ltable
    exact (p_cons (s_set (i := 2) sc_Ltable.nd (i_ix rfl (i_lst (l_lst (a_cons i_int (a_cons i_int (a_cons i_int (a_cons i_int (a_cons i_int (a_cons i_int (a_cons i_int a_nil))))))))) (i_var 1)))
    (p_cons (s_set (i := 3) sc_Ltable.nd (i_call (ok_Ldraw T) (hr.mono (by omega)) T.m_Ldraw T.F_Ldraw.kp T.b_Ldraw tk (a_cons (i_var 0) (a_cons i_int a_nil))))
    (p_cons (s_if (j_cmp (op_eqD hr.units) sem_eq (i_var 3) i_int (nomark _)) (p_cons (s_set (i := 4) sc_Ltable.nd (i_cmp (op_eqD hr.units) sem_eq (i_call (ok_Ldraw T) (hr.mono (by omega)) T.m_Ldraw T.F_Ldraw.kp T.b_Ldraw tk (a_cons (i_var 0) (a_cons i_int a_nil))) i_int (nomark _)))
    (p_one (s_ret (i_ct call_tuple_of sem_tup T.z_tuple (a_cons (i_lst (l_lc (own := [("_law_k", 9)]) rfl sc_Ltable.nd (w_range1 T.z_range (a_cons (i_var 2) a_nil)) (blkOk_by (N := N_Ltable) (sc := defScope s_Ltable) (by decide +kernel)) (fun _ _ _ _ _ => (g_name 9 sc_Ltable.nd)) (fun _ _ _ _ _ => ts_nil) (fun _ _ _ _ _ => (i_var 4)))) a_nil)))))
    p_nil)
    (p_cons (s_if (PW.pt (jw_and (j_cmp (op_eqD hr.units) sem_eq (i_var 3) i_int (nomark _)) (pw_and1 (j_cmp op_gt sem_gt (i_var 1) i_int (nomark _))))) (p_cons (s_set (i := 5) sc_Ltable.nd (i_ix rfl (i_lst (l_lst (a_cons i_int (a_cons i_int (a_cons i_int (a_cons i_int (a_cons i_int (a_cons i_int a_nil)))))))) (i_call (ok_Ldraw T) (hr.mono (by omega)) T.m_Ldraw T.F_Ldraw.kp T.b_Ldraw tk (a_cons (i_var 0) (a_cons (i_var 1) a_nil)))))
    (p_one (s_ret (i_ct call_tuple_of sem_tup T.z_tuple (a_cons (i_lst (l_lc (own := [("_law_k", 9)]) rfl sc_Ltable.nd (w_range1 T.z_range (a_cons (i_var 2) a_nil)) (blkOk_by (N := N_Ltable) (sc := defScope s_Ltable) (by decide +kernel)) (fun _ _ _ _ _ => (g_name 9 sc_Ltable.nd)) (fun _ _ _ _ _ => ts_nil) (fun _ _ _ _ _ => (i_cmp (op_eqD hr.units) sem_eq (i_op op_mod sem_mod (i_ct call_int1 sem_int T.z_int (a_cons (i_op op_fdivW sem_div (i_var 9) (i_var 5)) a_nil)) i_int) i_int (nomark _))))) a_nil)))))
    p_nil)
    (p_cons (s_if (j_cmp (op_eqD hr.units) sem_eq (i_var 3) i_int (nomark _)) (p_cons (s_set (i := 6) sc_Ltable.nd (i_call (ok_Ldraw T) (hr.mono (by omega)) T.m_Ldraw T.F_Ldraw.kp T.b_Ldraw tk (a_cons (i_var 0) (a_cons (i_var 2) a_nil))))
    (p_one (s_ret (i_ct call_tuple_of sem_tup T.z_tuple (a_cons (i_lst (l_lc (own := [("_law_k", 9)]) rfl sc_Ltable.nd (w_range1 T.z_range (a_cons (i_var 2) a_nil)) (blkOk_by (N := N_Ltable) (sc := defScope s_Ltable) (by decide +kernel)) (fun _ _ _ _ _ => (g_name 9 sc_Ltable.nd)) (fun _ _ _ _ _ => ts_nil) (fun _ _ _ _ _ => (i_cmp (op_eqD hr.units) sem_eq (i_var 9) (i_var 6) (nomark _))))) a_nil)))))
    p_nil)
    (p_cons (s_set (i := 7) sc_Ltable.nd (i_call (ok_Ldraw T) (hr.mono (by omega)) T.m_Ldraw T.F_Ldraw.kp T.b_Ldraw tk (a_cons (i_var 0) (a_cons (i_op op_pow sem_pow i_int i_int) a_nil))))
    (p_one (s_ret (i_ct call_tuple_of sem_tup T.z_tuple (a_cons (i_lst (l_lc (own := [("_law_bit", 8)]) rfl sc_Ltable.nd (w_seq rfl (i_call (ok_Lbits T) (hr.mono (by omega)) T.m_Lbits T.F_Lbits.kp T.b_Lbits tk (a_cons (i_var 7) (a_cons (i_var 2) a_nil)))) (blkOk_by (N := N_Ltable) (sc := defScope s_Ltable) (by decide +kernel)) (fun _ _ _ _ _ => (g_name 8 sc_Ltable.nd)) (fun _ _ _ _ _ => ts_nil) (fun _ _ _ _ _ => (i_var 8)))) a_nil))))))))))
  exact key
theorem ok_Lsame (T : Txt Γ.K mg) : ∀ k : Nat, FnOk P wo Γ.K mg base (L2.CX P wo) (1 + k) T.a_Lsame T.d_Lsame ["_law_actual", "_law_due_here"] (spI Γ 2 (f_Lsame k))
  | 0 => ⟨fun vs H Q E h => h.1, fun A outer s H args us vs Q E _ _ _ _ h => by obtain ⟨_, _, _, _, _, _, h⟩ := h; exact h.elim⟩
  | k + 1 => by
    have ih : FnOk P wo Γ.K mg base (L2.CX P wo) (1 + k) T.a_Lsame T.d_Lsame ["_law_actual", "_law_due_here"] (spI Γ 2 (f_Lsame k)) := ok_Lsame T k
    have key : FnOk P wo Γ.K mg base (L2.CX P wo) (1 + k + 1) T.a_Lsame T.d_Lsame ["_law_actual", "_law_due_here"] (spI Γ (["_law_actual", "_law_due_here"] : List Str).length (runDef N_Lsame.length .pur (b_Lsame (f_Lsame k)))) := by
      refine fn_i (m := .pur) (ς := b_Lsame (f_Lsame k)) T.F_Lsame sc_Lsame (fun cdv A outer s H E hr => ?_)
      have tk : Takes (cxOf (L2.CX P wo) P wo Γ.K mg base N_Lsame "_law_same" (defScope s_Lsame) T.a_Lsame cdv A outer s H E) (fun c d _ H' => E c d H') := takes_of rfl rfl rfl rfl
      unfold b_Lsame
      exact (p_cons (s_if (PW.pt (jw_or (j_tru rfl (i_isi (T := "tuple") rfl rfl T.z_isinstance T.z_tuple (i_var 1))) (pw_or1 (j_tru rfl (i_isi (T := "list") rfl rfl T.z_isinstance T.z_list (i_var 1)))))) (p_cons (s_if (PW.pt (jw_or (j_cmp (op_neD hr.units) sem_ne (i_isi (T := "tuple") rfl rfl T.z_isinstance T.z_tuple (i_var 1)) (i_isi (T := "tuple") rfl rfl T.z_isinstance T.z_tuple (i_var 0)) (nomark _)) (pw_or1 (j_cmp (op_neD hr.units) sem_ne (i_isi (T := "list") rfl rfl T.z_isinstance T.z_list (i_var 1)) (i_isi (T := "list") rfl rfl T.z_isinstance T.z_list (i_var 0)) (nomark _))))) (p_one (s_ret i_bl))
      p_nil)
      (p_cons (s_if (j_cmp (op_neD hr.units) sem_ne (i_cb call_len sem_len T.z_len (a_cons (i_var 0) a_nil)) (i_cb call_len sem_len T.z_len (a_cons (i_var 1) a_nil)) (nomark _)) (p_one (s_ret i_bl))
      p_nil)
      (p_cons (s_for (passes_of rfl) rfl (w_range1 T.z_range (a_cons (i_cb call_len sem_len T.z_len (a_cons (i_var 1) a_nil)) a_nil)) (g_name 2 sc_Lsame.nd)
      (p_one (s_if (j_not (j_tru rfl (i_call ih hr T.m_Lsame T.F_Lsame.kp T.b_Lsame tk (a_cons (i_ix rfl (i_var 0) (i_var 2)) (a_cons (i_ix rfl (i_var 1) (i_var 2)) a_nil))))) (p_one (s_ret i_bl))
      p_nil)))
      (p_one (s_ret i_bl)))))
      p_nil)
      (p_cons (s_if (j_cmp op_isN sem_isN (i_var 1) i_non (nomark _)) (p_one (s_ret (i_cmp op_isN sem_isN (i_var 0) i_non (nomark _))))
      p_nil)
      (p_cons (s_if (j_tru rfl (i_isi (T := "bool") rfl rfl T.z_isinstance T.z_bool (i_var 1))) (p_one (s_ret (i_and (i_isi (T := "bool") rfl rfl T.z_isinstance T.z_bool (i_var 0)) (pe_one (i_cmp (op_eqD hr.units) sem_eq (i_var 0) (i_var 1) (nomark _))))))
      p_nil)
      (p_cons (s_if (j_tru rfl (i_isi (T := "int") rfl rfl T.z_isinstance T.z_int (i_var 1))) (p_one (s_ret (i_and (i_isi (T := "int") rfl rfl T.z_isinstance T.z_int (i_var 0)) (i_and (i_not (i_isi (T := "bool") rfl rfl T.z_isinstance T.z_bool (i_var 0))) (pe_one (i_cmp (op_eqD hr.units) sem_eq (i_var 0) (i_var 1) (nomark _)))))))
      p_nil)
      (p_one (s_ret (i_and (i_isi (T := "str") rfl rfl T.z_isinstance T.z_str (i_var 0)) (pe_one (i_cmp (op_eqD hr.units) sem_eq (i_var 0) (i_var 1) (nomark _))))))))))
    exact key
theorem ok_Lwidened (T : Txt Γ.K mg) : FnOk P wo Γ.K mg base (L2.CX P wo) 1 T.a_Lwidened T.d_Lwidened ["_law_table_here", "_law_k"] (spI Γ 2 f_Lwidened) := by
  have key : FnOk P wo Γ.K mg base (L2.CX P wo) (0 + 1) T.a_Lwidened T.d_Lwidened ["_law_table_here", "_law_k"] (spI Γ (["_law_table_here", "_law_k"] : List Str).length (runDef N_Lwidened.length .pur (b_Lwidened))) := by
    refine fn_i (m := .pur) (ς := b_Lwidened) T.F_Lwidened sc_Lwidened (fun cdv A outer s H E hr => ?_)
    have tk : Takes (cxOf (L2.CX P wo) P wo Γ.K mg base N_Lwidened "_law_widened" (defScope s_Lwidened) T.a_Lwidened cdv A outer s H E) (fun c d _ H' => E c d H') := takes_of rfl rfl rfl rfl
    unfold b_Lwidened
    exact (p_cons (s_set (i := 2) sc_Lwidened.nd (i_ix rfl (i_lst (l_lst (a_cons i_int (a_cons i_int (a_cons i_int (a_cons i_int (a_cons i_int (a_cons i_int a_nil)))))))) (i_var 1)))
    (p_cons (s_set (i := 3) sc_Lwidened.nd (i_new (l_lst a_nil)))
    (p_cons (s_for (passes_of rfl) rfl (w_range1 T.z_range (a_cons (i_op mul_any sem_mul i_int (i_cb call_len sem_len T.z_len (a_cons (i_var 0) a_nil))) a_nil)) (g_name 4 sc_Lwidened.nd)
    (p_one (s_expr (i_bm rfl PySem.F.plainAttrs_list PySem.F.slot_list_append PySem.F.type_list_append mt_append sem_app (i_var 3) (a_cons (i_ix rfl (i_var 0) (i_op add_any sem_add (i_op mul_any sem_mul (i_op op_fdivW sem_div (i_var 4) (i_op mul_any sem_mul i_int (i_var 2))) (i_var 2)) (i_op op_mod sem_mod (i_ct call_int1 sem_int T.z_int (a_cons (i_var 4) a_nil)) (i_var 2)))) a_nil)))))
    (p_one (s_ret (i_ct call_tuple_of sem_tup T.z_tuple (a_cons (i_var 3) a_nil)))))))
  exact key
theorem ok_inputs_of (T : Txt Γ.K mg) : FnOk P wo Γ.K mg base (L2.CX P wo) 1 T.a_inputs_of T.d_inputs_of ["table"] (spI Γ 1 f_inputs_of) := by
  have key : FnOk P wo Γ.K mg base (L2.CX P wo) (0 + 1) T.a_inputs_of T.d_inputs_of ["table"] (spI Γ (["table"] : List Str).length (runDef N_inputs_of.length .pur (b_inputs_of))) := by
    refine fn_i (m := .pur) (ς := b_inputs_of) T.F_inputs_of sc_inputs_of (fun cdv A outer s H E hr => ?_)
    have tk : Takes (cxOf (L2.CX P wo) P wo Γ.K mg base N_inputs_of "inputs_of" (defScope s_inputs_of) T.a_inputs_of cdv A outer s H E) (fun c d _ H' => E c d H') := takes_of rfl rfl rfl rfl
    unfold b_inputs_of
    exact (p_one (s_ret (i_op op_sub sem_sub (i_bits (i_cb call_len sem_len T.z_len (a_cons (i_var 0) a_nil))) i_int)))
  exact key
theorem ok_depends_on (T : Txt Γ.K mg) : FnOk P wo Γ.K mg base (L2.CX P wo) 2 T.a_depends_on T.d_depends_on ["table"] (spI Γ 1 f_depends_on) := by
  have key : FnOk P wo Γ.K mg base (L2.CX P wo) (1 + 1) T.a_depends_on T.d_depends_on ["table"] (spI Γ (["table"] : List Str).length (runDef N_depends_on.length .pur (b_depends_on))) := by
    refine fn_i (m := .pur) (ς := b_depends_on) T.F_depends_on sc_depends_on (fun cdv A outer s H E hr => ?_)
    have tk : Takes (cxOf (L2.CX P wo) P wo Γ.K mg base N_depends_on "depends_on" (defScope s_depends_on) T.a_depends_on cdv A outer s H E) (fun c d _ H' => E c d H') := takes_of rfl rfl rfl rfl
    unfold b_depends_on
    exact (p_cons (s_set (i := 1) sc_depends_on.nd (i_new (l_lst a_nil)))
    (p_cons (s_for (passes_of rfl) rfl (w_range1 T.z_range (a_cons (i_call (ok_inputs_of T) (hr.mono (by omega)) T.m_inputs_of T.F_inputs_of.kp T.b_inputs_of tk (a_cons (i_var 0) a_nil)) a_nil)) (g_name 2 sc_depends_on.nd)
    (p_one (s_if (j_tru rfl (i_lst (l_lc (own := [("index", 3), ("row", 4)]) rfl sc_depends_on.nd (w_enum rfl T.z_enumerate (a_cons (i_var 0) a_nil)) (blkOk_by (N := N_depends_on) (sc := defScope s_depends_on) (by decide +kernel)) (fun _ _ _ _ _ => (g_tup rfl rfl (gs_cons (g_name 3 sc_depends_on.nd) (gs_cons (g_name 4 sc_depends_on.nd) gs_nil)))) (fun _ _ _ _ _ => (ts_one (j_cmp (op_neD hr.units) sem_ne (i_var 4) (i_ix rfl (i_var 0) (i_op op_xor sem_xor (i_var 3) (i_op op_shl sem_shl i_int (i_var 2)))) (nomark _)))) (fun _ _ _ _ _ => (i_var 4))))) (p_one (s_expr (i_bm rfl PySem.F.plainAttrs_list PySem.F.slot_list_append PySem.F.type_list_append mt_append sem_app (i_var 1) (a_cons (i_var 2) a_nil))))
    p_nil)))
    (p_one (s_ret (i_var 1)))))
  exact key
theorem ok_Ldue (T : Txt Γ.K mg) : FnOk P wo Γ.K mg base (L2.CX P wo) 1 T.a_Ldue T.d_Ldue ["_law_table_here", "_law_many"] (spI Γ 2 f_Ldue) := by
  have key : FnOk P wo Γ.K mg base (L2.CX P wo) (0 + 1) T.a_Ldue T.d_Ldue ["_law_table_here", "_law_many"] (spI Γ (["_law_table_here", "_law_many"] : List Str).length (runDef N_Ldue.length .pur (b_Ldue))) := by
    refine fn_i (m := .pur) (ς := b_Ldue) T.F_Ldue sc_Ldue (fun cdv A outer s H E hr => ?_)
    have tk : Takes (cxOf (L2.CX P wo) P wo Γ.K mg base N_Ldue "_law_due" (defScope s_Ldue) T.a_Ldue cdv A outer s H E) (fun c d _ H' => E c d H') := takes_of rfl rfl rfl rfl
    unfold b_Ldue
    exact (p_cons (s_set (i := 2) sc_Ldue.nd (i_new (l_lst a_nil)))
    (p_cons (s_for (passes_of rfl) rfl (w_range1 T.z_range (a_cons (i_var 1) a_nil)) (g_name 3 sc_Ldue.nd)
    (p_cons (s_set (i := 4) sc_Ldue.nd (i_ix rfl (i_lst (l_lst (a_cons i_int (a_cons i_int (a_cons i_int (a_cons i_int (a_cons i_int (a_cons i_int a_nil)))))))) (i_var 3)))
    (p_one (s_for (passes_of rfl) rfl (w_range1 T.z_range (a_cons (i_cb call_len sem_len T.z_len (a_cons (i_var 0) a_nil)) a_nil)) (g_name 5 sc_Ldue.nd)
    (p_one (s_if (PW.pt (jw_and (j_cmp (op_eqD hr.units) sem_eq (i_op op_mod sem_mod (i_ct call_int1 sem_int T.z_int (a_cons (i_op op_fdivW sem_div (i_var 5) (i_var 4)) a_nil)) i_int) i_int (nomark _)) (pw_and1 (j_cmp (op_neD hr.units) sem_ne (i_ix rfl (i_var 0) (i_var 5)) (i_ix rfl (i_var 0) (i_op add_any sem_add (i_var 5) (i_var 4))) (nomark _))))) (p_cons (s_expr (i_bm rfl PySem.F.plainAttrs_list PySem.F.slot_list_append PySem.F.type_list_append mt_append sem_app (i_var 2) (a_cons (i_var 3) a_nil)))
    (p_one s_brk))
    p_nil))))))
    (p_one (s_ret (i_var 2)))))
  exact key
theorem ok_law {a_law : Addr} {d_law : FuncData} (T : Txt Γ.K mg) (F_law : Fun Γ.K "law" "law" s_law a_law d_law) : FnOk P wo Γ.K mg base (L2.CX P wo) 10 a_law d_law ["_law_script"] (spI Γ 1 f_law) := by
  have key : FnOk P wo Γ.K mg base (L2.CX P wo) (9 + 1) a_law d_law ["_law_script"] (spI Γ (["_law_script"] : List Str).length (runDef N_law.length .pur (b_law))) := by
    refine fn_i (m := .pur) (ς := b_law) F_law sc_law (fun cdv A outer s H E hr => ?_)
    have tk : Takes (cxOf (L2.CX P wo) P wo Γ.K mg base N_law "law" (defScope s_law) a_law cdv A outer s H E) (fun c d _ H' => E c d H') := takes_of rfl rfl rfl rfl
    unfold b_law
    exact (p_cons (s_set (i := 1) sc_law.nd (i_call (ok_Lpool T) (hr.mono (by omega)) T.m_Lpool T.F_Lpool.kp T.b_Lpool tk (a_cons (i_var 0) a_nil)))
    (p_cons (s_for (passes_of rfl) rfl (w_range1 T.z_range (a_cons i_int a_nil)) (g_name 2 sc_law.nd)
    (p_cons (s_set (i := 3) sc_law.nd (i_call (ok_Ldraw T) (hr.mono (by omega)) T.m_Ldraw T.F_Ldraw.kp T.b_Ldraw tk (a_cons (i_var 1) (a_cons i_int a_nil))))
    (p_cons (s_set (i := 4) sc_law.nd (i_call (ok_Ltable T) (hr.mono (by omega)) T.m_Ltable T.F_Ltable.kp T.b_Ltable tk (a_cons (i_var 1) (a_cons (i_var 3) a_nil))))
    (p_cons (s_for (passes_of rfl) rfl (w_range1 T.z_range (a_cons (i_call (ok_Ldraw T) (hr.mono (by omega)) T.m_Ldraw T.F_Ldraw.kp T.b_Ldraw tk (a_cons (i_var 1) (a_cons i_int a_nil))) a_nil)) (g_name 5 sc_law.nd)
    (p_one (s_if (j_cmp op_lt sem_lt (i_var 3) i_int (nomark _)) (p_cons (s_set (i := 6) sc_law.nd (i_call (ok_Ldraw T) (hr.mono (by omega)) T.m_Ldraw T.F_Ldraw.kp T.b_Ldraw tk (a_cons (i_var 1) (a_cons (i_op add_any sem_add (i_var 3) i_int) a_nil))))
    (p_cons (s_set (i := 4) sc_law.nd (i_call (ok_Lwidened T) (hr.mono (by omega)) T.m_Lwidened T.F_Lwidened.kp T.b_Lwidened tk (a_cons (i_var 4) (a_cons (i_var 6) a_nil))))
    (p_cons (s_set (i := 3) sc_law.nd (i_op add_any sem_add (i_var 3) i_int))
    (p_one (s_if (j_cmp op_in_seq (sem_in false) (i_var 6) (i_call (ok_depends_on T) (hr.mono (by omega)) T.m_depends_on T.F_depends_on.kp T.b_depends_on tk (a_cons (i_var 4) a_nil)) (by rfl)) (p_one (s_ret i_bl))
    p_nil)))))
    p_nil)))
    (p_one (s_if (j_not (j_tru rfl (i_call (ok_Lsame T 8) (hr.mono (by omega)) T.m_Lsame T.F_Lsame.kp T.b_Lsame tk (a_cons (i_call (ok_depends_on T) (hr.mono (by omega)) T.m_depends_on T.F_depends_on.kp T.b_depends_on tk (a_cons (i_var 4) a_nil)) (a_cons (i_call (ok_Ldue T) (hr.mono (by omega)) T.m_Ldue T.F_Ldue.kp T.b_Ldue tk (a_cons (i_var 4) (a_cons (i_var 3) a_nil))) a_nil))))) (p_one (s_ret i_bl))
    p_nil))))))
    (p_one (s_ret i_bl))))
  exact key
end
theorem all_mk {l : PySem.W.OpenLaw} {w : World} {K : PySem.W.Frag} {h : Heap} {mg : Str → Option Value} {fa : Addr} (X : K.In h) (G : h.Ns mainGlobals mg) (hfa : mg "law" = some (.ref fa))
    {od1 an1 : Option Addr} {sl1 : Array (Option Value)} {oc1 kV1 dc1 pm1 cd1 ct1 : Value} {f1 : Addr}
    {od2 an2 : Option Addr} {sl2 : Array (Option Value)} {oc2 kV2 dc2 pm2 cd2 ct2 : Value} {f2 : Addr}
    {od3 an3 : Option Addr} {sl3 : Array (Option Value)} {oc3 kV3 dc3 pm3 cd3 ct3 : Value} {f3 : Addr}
    {od4 an4 : Option Addr} {sl4 : Array (Option Value)} {oc4 kV4 dc4 pm4 cd4 ct4 : Value} {f4 : Addr}
    {od5 an5 : Option Addr} {sl5 : Array (Option Value)} {oc5 kV5 dc5 pm5 cd5 ct5 : Value} {f5 : Addr}
    {od6 an6 : Option Addr} {sl6 : Array (Option Value)} {oc6 kV6 dc6 pm6 cd6 ct6 : Value} {f6 : Addr}
    {od7 an7 : Option Addr} {sl7 : Array (Option Value)} {oc7 kV7 dc7 pm7 cd7 ct7 : Value} {f7 : Addr}
    {od8 an8 : Option Addr} {sl8 : Array (Option Value)} {oc8 kV8 dc8 pm8 cd8 ct8 : Value} {f8 : Addr}
    {od9 an9 : Option Addr} {sl9 : Array (Option Value)} {oc9 kV9 dc9 pm9 cd9 ct9 : Value} {f9 : Addr}
    {od10 an10 : Option Addr} {sl10 : Array (Option Value)} {oc10 kV10 dc10 pm10 cd10 ct10 : Value} {f10 : Addr}
    {od11 an11 : Option Addr} {sl11 : Array (Option Value)} {oc11 kV11 dc11 pm11 cd11 ct11 : Value} {f11 : Addr}
    (x1 : PySem.W.nsIn K mainGlobals "_law_pool" = some (some (.ref f1))) (l1 : K.lookup f1 = some ⟨oc1, od1, .func (PySem.W.fnOf "_law_pool" "_law_pool" (defArgs s_Lpool) (defBody s_Lpool) (defScope s_Lpool) .none kV1 dc1 pm1 an1 cd1 ct1), sl1⟩) (c1 : PySem.W.codeIn K cd1 "_law_pool" = true) (k1 : PySem.W.keepIn K (.ref f1) = true)
    (x2 : PySem.W.nsIn K mainGlobals "_law_spread" = some (some (.ref f2))) (l2 : K.lookup f2 = some ⟨oc2, od2, .func (PySem.W.fnOf "_law_spread" "_law_spread" (defArgs s_Lspread) (defBody s_Lspread) (defScope s_Lspread) .none kV2 dc2 pm2 an2 cd2 ct2), sl2⟩) (c2 : PySem.W.codeIn K cd2 "_law_spread" = true) (k2 : PySem.W.keepIn K (.ref f2) = true)
    (x3 : PySem.W.nsIn K mainGlobals "_law_draw" = some (some (.ref f3))) (l3 : K.lookup f3 = some ⟨oc3, od3, .func (PySem.W.fnOf "_law_draw" "_law_draw" (defArgs s_Ldraw) (defBody s_Ldraw) (defScope s_Ldraw) .none kV3 dc3 pm3 an3 cd3 ct3), sl3⟩) (c3 : PySem.W.codeIn K cd3 "_law_draw" = true) (k3 : PySem.W.keepIn K (.ref f3) = true)
    (x4 : PySem.W.nsIn K mainGlobals "_law_bits" = some (some (.ref f4))) (l4 : K.lookup f4 = some ⟨oc4, od4, .func (PySem.W.fnOf "_law_bits" "_law_bits" (defArgs s_Lbits) (defBody s_Lbits) (defScope s_Lbits) .none kV4 dc4 pm4 an4 cd4 ct4), sl4⟩) (c4 : PySem.W.codeIn K cd4 "_law_bits" = true) (k4 : PySem.W.keepIn K (.ref f4) = true)
    (x5 : PySem.W.nsIn K mainGlobals "_law_table" = some (some (.ref f5))) (l5 : K.lookup f5 = some ⟨oc5, od5, .func (PySem.W.fnOf "_law_table" "_law_table" (defArgs s_Ltable) (defBody s_Ltable) (defScope s_Ltable) .none kV5 dc5 pm5 an5 cd5 ct5), sl5⟩) (c5 : PySem.W.codeIn K cd5 "_law_table" = true) (k5 : PySem.W.keepIn K (.ref f5) = true)
    (x6 : PySem.W.nsIn K mainGlobals "_law_same" = some (some (.ref f6))) (l6 : K.lookup f6 = some ⟨oc6, od6, .func (PySem.W.fnOf "_law_same" "_law_same" (defArgs s_Lsame) (defBody s_Lsame) (defScope s_Lsame) .none kV6 dc6 pm6 an6 cd6 ct6), sl6⟩) (c6 : PySem.W.codeIn K cd6 "_law_same" = true) (k6 : PySem.W.keepIn K (.ref f6) = true)
    (x7 : PySem.W.nsIn K mainGlobals "_law_widened" = some (some (.ref f7))) (l7 : K.lookup f7 = some ⟨oc7, od7, .func (PySem.W.fnOf "_law_widened" "_law_widened" (defArgs s_Lwidened) (defBody s_Lwidened) (defScope s_Lwidened) .none kV7 dc7 pm7 an7 cd7 ct7), sl7⟩) (c7 : PySem.W.codeIn K cd7 "_law_widened" = true) (k7 : PySem.W.keepIn K (.ref f7) = true)
    (x8 : PySem.W.nsIn K mainGlobals "inputs_of" = some (some (.ref f8))) (l8 : K.lookup f8 = some ⟨oc8, od8, .func (PySem.W.fnOf "inputs_of" "inputs_of" (defArgs s_inputs_of) (defBody s_inputs_of) (defScope s_inputs_of) .none kV8 dc8 pm8 an8 cd8 ct8), sl8⟩) (c8 : PySem.W.codeIn K cd8 "inputs_of" = true) (k8 : PySem.W.keepIn K (.ref f8) = true)
    (x9 : PySem.W.nsIn K mainGlobals "depends_on" = some (some (.ref f9))) (l9 : K.lookup f9 = some ⟨oc9, od9, .func (PySem.W.fnOf "depends_on" "depends_on" (defArgs s_depends_on) (defBody s_depends_on) (defScope s_depends_on) .none kV9 dc9 pm9 an9 cd9 ct9), sl9⟩) (c9 : PySem.W.codeIn K cd9 "depends_on" = true) (k9 : PySem.W.keepIn K (.ref f9) = true)
    (x10 : PySem.W.nsIn K mainGlobals "_law_due" = some (some (.ref f10))) (l10 : K.lookup f10 = some ⟨oc10, od10, .func (PySem.W.fnOf "_law_due" "_law_due" (defArgs s_Ldue) (defBody s_Ldue) (defScope s_Ldue) .none kV10 dc10 pm10 an10 cd10 ct10), sl10⟩) (c10 : PySem.W.codeIn K cd10 "_law_due" = true) (k10 : PySem.W.keepIn K (.ref f10) = true)
    (x11 : PySem.W.nsIn K mainGlobals "law" = some (some (.ref f11))) (l11 : K.lookup f11 = some ⟨oc11, od11, .func (PySem.W.fnOf "law" "law" (defArgs s_law) (defBody s_law) (defScope s_law) .none kV11 dc11 pm11 an11 cd11 ct11), sl11⟩) (c11 : PySem.W.codeIn K cd11 "law" = true) (k11 : PySem.W.keepIn K (.ref f11) = true)
    (z_bool : PySem.W.nsIn K mainGlobals "bool" = some none)
    (z_enumerate : PySem.W.nsIn K mainGlobals "enumerate" = some none)
    (z_int : PySem.W.nsIn K mainGlobals "int" = some none)
    (z_isinstance : PySem.W.nsIn K mainGlobals "isinstance" = some none)
    (z_len : PySem.W.nsIn K mainGlobals "len" = some none)
    (z_list : PySem.W.nsIn K mainGlobals "list" = some none)
    (z_range : PySem.W.nsIn K mainGlobals "range" = some none)
    (z_str : PySem.W.nsIn K mainGlobals "str" = some none)
    (z_tuple : PySem.W.nsIn K mainGlobals "tuple" = some none) :
    ∃ fd : FuncData, (∀ (s : Shared) (v : Value), BindsTo s fd ⟨[v], []⟩ [("_law_script", v)]) ∧ ∀ base : Heap, K.In base → base.Ns mainGlobals mg → FnOk l.prog w K mg base (L2.CX l.prog w) 10 fa fd ["_law_script"] (spI ⟨K, fun _ => none⟩ 1 f_law) := by
  have e := hfa.symm.trans (PySem.W.mg_of X G x11)
  cases e
  have T : Txt (Gm.K ⟨K, fun _ => none⟩) mg := {
    a_Lpool := f1
    d_Lpool := _
    F_Lpool := fun_mk (st := s_Lpool) l1 c1 k1
    m_Lpool := PySem.W.mg_of X G x1
    b_Lpool := (fun_mk (st := s_Lpool) l1 c1 k1).binds (ps := ["_law_script"]) (fun _ _ _ _ _ _ us hl => (match us, hl with | [_], _ => rfl))
    a_Lspread := f2
    d_Lspread := _
    F_Lspread := fun_mk (st := s_Lspread) l2 c2 k2
    m_Lspread := PySem.W.mg_of X G x2
    b_Lspread := (fun_mk (st := s_Lspread) l2 c2 k2).binds (ps := ["_law_cell"]) (fun _ _ _ _ _ _ us hl => (match us, hl with | [_], _ => rfl))
    a_Ldraw := f3
    d_Ldraw := _
    F_Ldraw := fun_mk (st := s_Ldraw) l3 c3 k3
    m_Ldraw := PySem.W.mg_of X G x3
    b_Ldraw := (fun_mk (st := s_Ldraw) l3 c3 k3).binds (ps := ["_law_pool_here", "_law_many"]) (fun _ _ _ _ _ _ us hl => (match us, hl with | [_, _], _ => rfl))
    a_Lbits := f4
    d_Lbits := _
    F_Lbits := fun_mk (st := s_Lbits) l4 c4 k4
    m_Lbits := PySem.W.mg_of X G x4
    b_Lbits := (fun_mk (st := s_Lbits) l4 c4 k4).binds (ps := ["_law_index", "_law_many"]) (fun _ _ _ _ _ _ us hl => (match us, hl with | [_, _], _ => rfl))
    a_Ltable := f5
    d_Ltable := _
    F_Ltable := fun_mk (st := s_Ltable) l5 c5 k5
    m_Ltable := PySem.W.mg_of X G x5
    b_Ltable := (fun_mk (st := s_Ltable) l5 c5 k5).binds (ps := ["_law_pool_here", "_law_many"]) (fun _ _ _ _ _ _ us hl => (match us, hl with | [_, _], _ => rfl))
    a_Lsame := f6
    d_Lsame := _
    F_Lsame := fun_mk (st := s_Lsame) l6 c6 k6
    m_Lsame := PySem.W.mg_of X G x6
    b_Lsame := (fun_mk (st := s_Lsame) l6 c6 k6).binds (ps := ["_law_actual", "_law_due_here"]) (fun _ _ _ _ _ _ us hl => (match us, hl with | [_, _], _ => rfl))
    a_Lwidened := f7
    d_Lwidened := _
    F_Lwidened := fun_mk (st := s_Lwidened) l7 c7 k7
    m_Lwidened := PySem.W.mg_of X G x7
    b_Lwidened := (fun_mk (st := s_Lwidened) l7 c7 k7).binds (ps := ["_law_table_here", "_law_k"]) (fun _ _ _ _ _ _ us hl => (match us, hl with | [_, _], _ => rfl))
    a_inputs_of := f8
    d_inputs_of := _
    F_inputs_of := fun_mk (st := s_inputs_of) l8 c8 k8
    m_inputs_of := PySem.W.mg_of X G x8
    b_inputs_of := (fun_mk (st := s_inputs_of) l8 c8 k8).binds (ps := ["table"]) (fun _ _ _ _ _ _ us hl => (match us, hl with | [_], _ => rfl))
    a_depends_on := f9
    d_depends_on := _
    F_depends_on := fun_mk (st := s_depends_on) l9 c9 k9
    m_depends_on := PySem.W.mg_of X G x9
    b_depends_on := (fun_mk (st := s_depends_on) l9 c9 k9).binds (ps := ["table"]) (fun _ _ _ _ _ _ us hl => (match us, hl with | [_], _ => rfl))
    a_Ldue := f10
    d_Ldue := _
    F_Ldue := fun_mk (st := s_Ldue) l10 c10 k10
    m_Ldue := PySem.W.mg_of X G x10
    b_Ldue := (fun_mk (st := s_Ldue) l10 c10 k10).binds (ps := ["_law_table_here", "_law_many"]) (fun _ _ _ _ _ _ us hl => (match us, hl with | [_, _], _ => rfl))
    z_bool := PySem.W.mg_none_of X G z_bool
    z_enumerate := PySem.W.mg_none_of X G z_enumerate
    z_int := PySem.W.mg_none_of X G z_int
    z_isinstance := PySem.W.mg_none_of X G z_isinstance
    z_len := PySem.W.mg_none_of X G z_len
    z_list := PySem.W.mg_none_of X G z_list
    z_range := PySem.W.mg_none_of X G z_range
    z_str := PySem.W.mg_none_of X G z_str
    z_tuple := PySem.W.mg_none_of X G z_tuple }
  exact ⟨PySem.W.fnOf "law" "law" (defArgs s_law) (defBody s_law) (defScope s_law) .none kV11 dc11 pm11 an11 cd11 ct11, fun s v => .of_eq rfl, fun base _ _ => ok_law (Γ := ⟨K, fun _ => none⟩) T (fun_mk (st := s_law) l11 c11 k11)⟩
end M

-- End
set_option Elab.async false
set_option linter.all false
set_option maxRecDepth 100000
namespace M
open PySem L2
theorem walk {l : PySem.W.OpenLaw} {q : Program} {loose : List Str} {XP : (Str → Option Value) → Heap → Prop} {YP : World → Heap → Prop} {d : DefRec} {K : Params → PySem.W.Frag} (hlaw : ∀ ns : List Int, ns.length ≤ 63 → f_law [.ro (ns.map W.int)] [] = .ok (.bl true) [])
    (hn : l.most = some 63) (hdf : d.params.defaults = []) (hY : ∀ (w : World) (h : Heap), YP w h → (K w.params).In h)
    (F : ∀ (w : World) (mg : Str → Option Value) (fa : Addr) (h : Heap), (K w.params).In h → h.Ns mainGlobals mg → mg d.name = some (.ref fa) →
      ∃ fd : FuncData, (∀ (s : Shared) (u : Value), BindsTo s fd ⟨[u], []⟩ [("_law_script", u)]) ∧ ∀ base : Heap, (K w.params).In base → base.Ns mainGlobals mg → FnOk l.prog w (K w.params) mg base (L2.CX l.prog w) 10 fa fd ["_law_script"] (spI ⟨K w.params, fun _ => none⟩ 1 f_law)) :
    PySem.W.WalkO q loose XP YP l.row.toRowW d [] (fun f vs => PySem.call f vs) :=
  L2.walk_of (n := 63) (k := 10) (x := "_law_script") (CX := fun w => L2.CX l.prog w) (sp := fun w => spI ⟨K w.params, fun _ => none⟩ 1 f_law) hn (by decide) hdf ⟨rfl, by decide, by decide⟩ hY F (fun w H a ns hl _ hS => law_end hlaw hl hS) fun w H s e s' h => by
    obtain ⟨_, _, _, _, _, _, _, _, _, _, _, _, z⟩ := h
    exact z
end M
open PySem PySem.W PyProof.Rows
set_option maxRecDepth 100000 in
set_option maxHeartbeats 0 in
theorem PySem.Challenge.cw_signoff_k11_inputs_that_matter_holds : PySem.Challenge.rw_signoff_k11_inputs_that_matter.Holds := by
  w_on; o_law; k_head; (case hw => w_witness2)
  k_fill
  refine M.walk (l := PySem.Challenge.rw_signoff_k11_inputs_that_matter) M.law_true rfl rfl (fun w h Y => PySem.W.kIn_of Y) ?F
  case F =>
    intro w mg fa h KX G hmg
    refine' M.all_mk KX G hmg ?x1 ?l1 ?c1 ?k1 ?x2 ?l2 ?c2 ?k2 ?x3 ?l3 ?c3 ?k3 ?x4 ?l4 ?c4 ?k4 ?x5 ?l5 ?c5 ?k5 ?x6 ?l6 ?c6 ?k6 ?x7 ?l7 ?c7 ?k7 ?x8 ?l8 ?c8 ?k8 ?x9 ?l9 ?c9 ?k9 ?x10 ?l10 ?c10 ?k10 ?x11 ?l11 ?c11 ?k11 ?z_bool ?z_enumerate ?z_int ?z_isinstance ?z_len ?z_list ?z_range ?z_str ?z_tuple
    (case x1 => k_is)
    (case l1 => k_is)
    (case c1 => k_is)
    (case k1 => k_is)
    (case x2 => k_is)
    (case l2 => k_is)
    (case c2 => k_is)
    (case k2 => k_is)
    (case x3 => k_is)
    (case l3 => k_is)
    (case c3 => k_is)
    (case k3 => k_is)
    (case x4 => k_is)
    (case l4 => k_is)
    (case c4 => k_is)
    (case k4 => k_is)
    (case x5 => k_is)
    (case l5 => k_is)
    (case c5 => k_is)
    (case k5 => k_is)
    (case x6 => k_is)
    (case l6 => k_is)
    (case c6 => k_is)
    (case k6 => k_is)
    (case x7 => k_is)
    (case l7 => k_is)
    (case c7 => k_is)
    (case k7 => k_is)
    (case x8 => k_is)
    (case l8 => k_is)
    (case c8 => k_is)
    (case k8 => k_is)
    (case x9 => k_is)
    (case l9 => k_is)
    (case c9 => k_is)
    (case k9 => k_is)
    (case x10 => k_is)
    (case l10 => k_is)
    (case c10 => k_is)
    (case k10 => k_is)
    (case x11 => k_is)
    (case l11 => k_is)
    (case c11 => k_is)
    (case k11 => k_is)
    (case z_bool => k_is)
    (case z_enumerate => k_is)
    (case z_int => k_is)
    (case z_isinstance => k_is)
    (case z_len => k_is)
    (case z_list => k_is)
    (case z_range => k_is)
    (case z_str => k_is)
    (case z_tuple => k_is)
#print axioms PySem.Challenge.cw_signoff_k11_inputs_that_matter_holds

