import PyProof.Rows.All
import PyProof.EqLayable
import HandS.ForMost
import HandS.Walk
import HandS.TupAny
import HandS.TupMul
import HandS.Star
import HandS.Style
import HandS.Conv
import HandS.IsInst
import HandS.SortInts
import HandS.More
import KE.KIndexWalk
import KE.GoesNew
import KE.GoesMore
import KE.GoesEnumKw
import HandS.Zip
import HandS.SetFor
import HandS.Words
import PyProof.ReprRoads
import PyProof.CallFns
import HandS.SortKw
import KE.KRevSl
import PySem.Challenge.RW_hightrees_k75_rows_with_told_marks
import PyProof.ReprBulk
section
set_option linter.all false
/-! Denotations: what Python's expressions and statements are worth, over plain data. -/
namespace Ev
open PySem

abbrev D := PyData
/-- the law's source of drawn numbers -/
structure Src where
  cells : List Int
  left : Int
  mixed : Int
  turn : Int
/-- what a name holds: nothing that is told; data to be read (its lists down to depth n may change when we are gone); a list of our own down to depth n; such a one that a loop walks; the source -/
inductive Slot where
  | dead | vw (n : Nat) (d : D) | own (n : Nat) (d : D) | lck (n : Nat) (d : D) | src
abbrev Slots := List Slot
abbrev M (α : Type) := Src → Option (α × Src)
abbrev EvE := Slots → M D
abbrev EvT := Slots → M Bool
abbrev EvL := Slots → M (List D)
abbrev EvA := Slots → M (List Slot)
inductive Out where
  | nx (ss : Slots) | rt (d : D) | bk (ss : Slots) | ct (ss : Slots)
abbrev EvS := Slots → M Out
/-- a def: its arguments, the source -/
abbrev Fn := List Slot → M D

def lim : Nat := 16777216

def bnd {α β : Type} (x : M α) (f : α → M β) : M β := fun s => match x s with
  | some (a, s') => f a s'
  | none => none
def ret {α : Type} (a : α) : M α := fun s => some (a, s)
def lft {α : Type} (o : Option α) : M α := fun s => match o with
  | some a => some (a, s)
  | none => none
def stop {α : Type} : M α := fun _ => none
theorem bnd_of {α β : Type} {x : M α} {f : α → M β} {s s' : Src} {a : α} (h : x s = some (a, s')) : bnd x f s = f a s' := by
  unfold bnd; rw [h]
theorem bnd_inv {α β : Type} {x : M α} {f : α → M β} {s s' : Src} {b : β} (h : bnd x f s = some (b, s')) : ∃ a s1, x s = some (a, s1) ∧ f a s1 = some (b, s') := by
  unfold bnd at h
  split at h
  · rename_i a s1 e; exact ⟨a, s1, e, h⟩
  · cases h
theorem lft_inv {α : Type} {o : Option α} {s s' : Src} {a : α} (h : lft o s = some (a, s')) : o = some a ∧ s' = s := by
  unfold lft at h
  split at h
  · cases h; exact ⟨rfl, rfl⟩
  · cases h
theorem ret_inv {α : Type} {x a : α} {s s' : Src} (h : ret x s = some (a, s')) : a = x ∧ s' = s := by
  unfold ret at h; cases h; exact ⟨rfl, rfl⟩
@[simp] theorem bnd_ret {α β : Type} (a : α) (f : α → M β) : bnd (ret a) f = f a := rfl
@[simp] theorem bnd_lft {α β : Type} (a : α) (f : α → M β) : bnd (lft (some a)) f = f a := rfl
@[simp] theorem ret_ap {α : Type} (a : α) (s : Src) : ret a s = some (a, s) := rfl
@[simp] theorem lft_ap {α : Type} (a : α) (s : Src) : lft (some a) s = some (a, s) := rfl

/-! ### expressions -/
def cst (d : D) : EvE := fun _ => ret d
/-- the name in slot i, to be read at depth n -/
def rd (n i : Nat) : EvE := fun ss => match ss[i]? with
  | some (.vw k d) => if k ≤ n then ret d else stop
  | some (.own k d) => if k ≤ n then ret d else stop
  | some (.lck k d) => if k ≤ n then ret d else stop
  | _ => stop
def un (op : D → Option D) (a : EvE) : EvE := fun ss => bnd (a ss) fun x => lft (op x)
def bin (op : D → D → Option D) (a b : EvE) : EvE := fun ss => bnd (a ss) fun x => bnd (b ss) fun y => lft (op x y)
def tst (a : EvE) : EvT := fun ss => bnd (a ss) fun x => match x with
  | .bool b => ret b
  | _ => stop
/-- by truth -/
def truD : D → Option Bool
  | .none => some false
  | .bool b => some b
  | .int i => some (i != 0)
  | .str _ => none
  | .list xs => some (!xs.isEmpty)
  | .tuple xs => some (!xs.isEmpty)
  | .dict _ => none
def tru (a : EvE) : EvT := fun ss => bnd (a ss) fun x => lft (truD x)
def andT (a b : EvT) : EvT := fun ss => bnd (a ss) fun c => if c then b ss else ret false
def orT (a b : EvT) : EvT := fun ss => bnd (a ss) fun c => if c then ret true else b ss
def notT (a : EvT) : EvT := fun ss => bnd (a ss) fun c => ret (!c)
/-- as values: all but the last is True or False -/
def andV (a b : EvE) : EvE := fun ss => bnd (a ss) fun x => match x with
  | .bool c => if c then b ss else ret (.bool false)
  | _ => stop
def orV (a b : EvE) : EvE := fun ss => bnd (a ss) fun x => match x with
  | .bool c => if c then ret (.bool true) else b ss
  | _ => stop
def notV (a : EvE) : EvE := fun ss => bnd (a ss) fun x => match x with
  | .bool c => ret (.bool (!c))
  | _ => stop
def notTV (a : EvT) : EvE := fun ss => bnd (a ss) fun c => ret (.bool (!c))
def iteE (c : EvT) (a b : EvE) : EvE := fun ss => bnd (c ss) fun k => if k then a ss else b ss
/-- a op b op' c -/
def chn (op op' : D → D → Option D) (a b c : EvE) : EvE := fun ss => bnd (a ss) fun x => bnd (b ss) fun y => bnd (lft (op x y)) fun z => match z with
  | .bool k => if k then bnd (c ss) fun u => lft (op' y u) else ret (.bool false)
  | _ => stop

/-! argument lists -/
def nilA : EvL := fun _ => ret []
def consA (a : EvE) (r : EvL) : EvL := fun ss => bnd (a ss) fun x => bnd (r ss) fun xs => ret (x :: xs)
def starA (a : EvL) (r : EvL) : EvL := fun ss => bnd (a ss) fun xs => bnd (r ss) fun ys => ret (xs ++ ys)
def tupE (r : EvL) : EvE := fun ss => bnd (r ss) fun xs => if xs.length ≤ lim then ret (.tuple xs) else stop
def lstE (r : EvL) : EvE := fun ss => bnd (r ss) fun xs => if xs.length ≤ lim then ret (.list xs) else stop
def argsN : EvA := fun _ => ret []
def argsE (n : Nat) (a : EvE) (r : EvA) : EvA := fun ss => bnd (a ss) fun x => bnd (r ss) fun xs => ret (.vw n x :: xs)
def argsS (i : Nat) (r : EvA) : EvA := fun ss => match ss[i]? with
  | some .src => bnd (r ss) fun xs => ret (.src :: xs)
  | _ => stop
def callE (f : Fn) (r : EvA) : EvE := fun ss => bnd (r ss) fun xs => f xs

/-! ### operators on data -/
def addD : D → D → Option D
  | .int a, .int b => some (.int (a + b))
  | .list a, .list b => if a.length + b.length ≤ lim then some (.list (a ++ b)) else none
  | .tuple a, .tuple b => if a.length + b.length ≤ lim then some (.tuple (a ++ b)) else none
  | _, _ => none
def subD : D → D → Option D
  | .int a, .int b => some (.int (a - b))
  | _, _ => none
def small (i : Int) : Bool := decide (i.natAbs < 2 ^ 64)
def repL (k : Int) (a : List D) : List D := (List.replicate k.toNat a).flatten
def mulD : D → D → Option D
  | .int a, .int b => if small a || small b then some (.int (a * b)) else none
  | .list a, .int k => if decide (k.natAbs < 2 ^ 62) && decide (a.length * k.toNat ≤ lim) then some (.list (repL k a)) else none
  | .tuple a, .int k => if decide (k.natAbs ≤ 1000) && decide (a.length ≤ 1000) then some (.tuple (repL k a)) else none
  | _, _ => none
def modD : D → D → Option D
  | .int a, .int b => if 0 < b then some (.int (a % b)) else none
  | _, _ => none
def fdivD : D → D → Option D
  | .int a, .int b => if 0 < b ∧ b.natAbs < 1073741824 then some (.int (a / b)) else none
  | _, _ => none
/-- by divisors of either sign -/
def fdivN : D → D → Option D
  | .int a, .int b => if b ≠ 0 ∧ b.natAbs < 1073741824 then some (.int (a.fdiv b)) else none
  | _, _ => none
def powD : D → D → Option D
  | .int a, .int b => if 0 ≤ b ∧ b.natAbs ≤ 1000000 ∧ a.natAbs < 2 ^ 64 then some (.int (a ^ b.toNat)) else none
  | _, _ => none
def shlD : D → D → Option D
  | .int a, .int b => if 0 ≤ b ∧ b.natAbs ≤ 1000000 ∧ a.natAbs < 2 ^ 64 then some (.int (a * 2 ^ b.toNat)) else none
  | _, _ => none
def negD : D → Option D
  | .int a => some (.int (-a))
  | _ => none
def ltD : D → D → Option D
  | .int a, .int b => some (.bool (decide (a < b)))
  | _, _ => none
def leD : D → D → Option D
  | .int a, .int b => some (.bool (decide (a ≤ b)))
  | _, _ => none
def gtD : D → D → Option D
  | .int a, .int b => some (.bool (decide (b < a)))
  | _, _ => none
def geD : D → D → Option D
  | .int a, .int b => some (.bool (decide (b ≤ a)))
  | _, _ => none
def isNone : D → Bool
  | .none => true
  | _ => false
def isN (x : D) : Option D := some (.bool (isNone x))
def notN (x : D) : Option D := some (.bool (!isNone x))

def dBool (o : Option D) : Bool := match o with
  | some (.bool b) => b
  | _ => false
/-- == of data -/
def eqD (x y : D) : Option D := if SeqAt.shaped x && SeqAt.shaped y then some (.bool (PyData.eqv x y)) else match x, y with
  | .tuple xs, .tuple [] => some (.bool xs.isEmpty)
  | _, _ => none
def notD : Option D → Option D
  | some (.bool b) => some (.bool (!b))
  | _ => none
def neD (x y : D) : Option D := if SeqAt.shaped x && SeqAt.shaped y then some (.bool (!PyData.eqv x y)) else none
def keyEq : D → D → Bool
  | .int a, .int b => a == b
  | .str a, .str b => a == b
  | _, _ => false
def isKey : D → Bool
  | .int _ => true
  | .str _ => true
  | _ => false
def dLook : List (D × D) → D → Option D
  | [], _ => none
  | (k, v) :: r, x => if keyEq k x then some v else dLook r x
/-- x in y -/
def inD (x y : D) : Option D := match y with
  | .list ds => if SeqAt.shaped x && SeqAt.shaped (.list ds) then some (.bool (ds.any fun z => PyData.eqv z x)) else none
  | .tuple ds => if SeqAt.shaped x && SeqAt.shaped (.tuple ds) then some (.bool (ds.any fun z => PyData.eqv z x)) else none
  | .dict kvs => if isKey x then some (.bool (dLook kvs x).isSome) else none
  | _ => none
def ninD (x y : D) : Option D := notD (inD x y)

/-! places -/
def ixN (n : Nat) (i : Int) : Option Nat := if 0 ≤ i then (if i < n then some i.toNat else none) else if -(n : Int) ≤ i then some (i + n).toNat else none
def at_ (ds : List D) (i : Int) : Option D := (ixN ds.length i).bind fun j => ds[j]?
def ixD : D → D → Option D
  | .list ds, .int i => at_ ds i
  | .tuple ds, .int i => at_ ds i
  | .dict kvs, k => if isKey k then dLook kvs k else none
  | _, _ => none
def sIx (n d : Nat) : Option Int → Nat
  | none => d
  | some v => if v < 0 then (v + (n : Int)).toNat else min v.toNat n
def cut (ds : List D) (lo hi : Option Int) : List D := (ds.drop (sIx ds.length 0 lo)).take (sIx ds.length ds.length hi - sIx ds.length 0 lo)
def slD (x : D) (lo hi : Option Int) : Option D := match x with
  | .list ds => some (.list (cut ds lo hi))
  | .tuple ds => some (.tuple (cut ds lo hi))
  | _ => none
def revD : D → Option D
  | .list ds => some (.list ds.reverse)
  | .tuple ds => some (.tuple ds.reverse)
  | _ => none

/-! built-in functions -/
def lenD : D → Option D
  | .list ds => some (.int ds.length)
  | .tuple ds => some (.int ds.length)
  | .dict kvs => some (.int kvs.length)
  | _ => none
def toTup : D → Option D
  | .list ds => some (.tuple ds)
  | .tuple ds => some (.tuple ds)
  | _ => none
def toLst : D → Option D
  | .list ds => some (.list ds)
  | .tuple ds => some (.list ds)
  | .dict kvs => some (.list (kvs.map (·.1)))
  | _ => none
def intD : D → Option D
  | .int i => some (.int i)
  | .bool b => some (.int (if b then 1 else 0))
  | _ => none
def absD : D → Option D
  | .int i => some (.int (if i < 0 then -i else i))
  | _ => none
def asInts : List D → Option (List Int)
  | [] => some []
  | .int i :: r => (asInts r).map (i :: ·)
  | _ :: _ => none
def asBools : List D → Option (List Bool)
  | [] => some []
  | .bool i :: r => (asBools r).map (i :: ·)
  | _ :: _ => none
def items : D → Option (List D)
  | .list ds => some ds
  | .tuple ds => some ds
  | _ => none
def listed : D → Option (List D)
  | .list ds => some ds
  | _ => none
def sumD (x : D) : Option D := (listed x).bind fun ds => (asInts ds).map fun ns => .int ns.sum
def allD (x : D) : Option D := (listed x).bind fun ds => (asBools ds).map fun ns => .bool (ns.all id)
def anyD (x : D) : Option D := (listed x).bind fun ds => (asBools ds).map fun ns => .bool (ns.any id)
def minL : List Int → Option Int
  | [] => none
  | [a] => some a
  | a :: r => (minL r).map fun m => if m < a then m else a
def maxL : List Int → Option Int
  | [] => none
  | [a] => some a
  | a :: r => (maxL r).map fun m => if a < m then m else a
def minD (x : D) : Option D := (listed x).bind fun ds => (asInts ds).bind fun ns => (minL ns).map .int
def maxD (x : D) : Option D := (listed x).bind fun ds => (asInts ds).bind fun ns => (maxL ns).map .int
def min2 : D → D → Option D
  | .int a, .int b => some (.int (if b < a then b else a))
  | _, _ => none
def max2 : D → D → Option D
  | .int a, .int b => some (.int (if b > a then b else a))
  | _, _ => none
/-- of which kind -/
inductive Kd where
  | int | bool | str | tuple | list | dict
def isK : Kd → D → Bool
  | .int, .int _ => true
  | .int, .bool _ => true
  | .bool, .bool _ => true
  | .str, .str _ => true
  | .tuple, .tuple _ => true
  | .list, .list _ => true
  | .dict, .dict _ => true
  | _, _ => false
def isiD (k : Kd) (x : D) : Option D := some (.bool (isK k x))

/-! loops -/
/-- for each item in turn: something kept, or nothing -/
def mapF {α : Type} (f : α → M (Option D)) : List α → M (List D)
  | [] => ret []
  | x :: xs => bnd (f x) fun o => bnd (mapF f xs) fun r => ret (match o with | some y => y :: r | none => r)
abbrev Tg := D → Slots → Option Slots
def tName (n i : Nat) : Tg := fun d ss => some (ss.set i (.vw n d))
def tSeq : List Tg → List D → Slots → Option Slots
  | [], [], ss => some ss
  | t :: ts, d :: ds, ss => (t d ss).bind fun ss' => tSeq ts ds ss'
  | _, _, _ => none
def tTup (ts : List Tg) : Tg := fun d ss => match d with
  | .tuple ds => tSeq ts ds ss
  | _ => none
def wipeS (ss : Slots) : List Nat → Slots
  | [] => ss
  | i :: is => (wipeS ss is).set i .dead
/-- [e for t in src if c] -/
def comp (own : List Nat) (src : EvL) (t : Tg) (c : EvT) (e : EvE) : EvL := fun ss => bnd (src ss) fun xs =>
  bnd (mapF (fun x => match t x (wipeS ss own) with
    | some ss1 => bnd (c ss1) fun k => if k then bnd (e ss1) fun y => ret (some y) else ret none
    | none => stop) xs) fun ys => if ys.length ≤ lim then ret ys else stop
def yes : EvT := fun _ => ret true
def compE (l : EvL) : EvE := fun ss => bnd (l ss) fun ys => ret (.list ys)

/-! ### statements -/
def pass : EvS := fun ss => ret (.nx ss)
def seq (a b : EvS) : EvS := fun ss => bnd (a ss) fun o => match o with
  | .nx ss' => b ss'
  | o => ret o
def setS (i : Nat) (e : EvE) : EvS := fun ss => bnd (e ss) fun d => ret (.nx (ss.set i (.vw 0 d)))
/-- a new list (of depth k) given to a name of our own -/
def newS (k i : Nat) (e : EvE) : EvS := fun ss => bnd (e ss) fun d => ret (.nx (ss.set i (.own k d)))
def tgS (t : Tg) (e : EvE) : EvS := fun ss => bnd (e ss) fun d => bnd (lft (t d ss)) fun ss' => ret (.nx ss')
def retS (e : EvE) : EvS := fun ss => bnd (e ss) fun d => ret (.rt d)
def dropS (e : EvE) : EvS := fun ss => bnd (e ss) fun _ => ret (.nx ss)
def ifS (c : EvT) (a b : EvS) : EvS := fun ss => bnd (c ss) fun k => if k then a ss else b ss
def brk : EvS := fun ss => ret (.bk ss)
def cnt : EvS := fun ss => ret (.ct ss)
def never : EvS := fun _ => stop
/-- our own list in slot i, given out for good -/
def frz (i : Nat) : EvS := fun ss => match ss[i]? with
  | some (.own _ d) => ret (.nx (ss.set i (.vw 0 d)))
  | some (.vw 0 d) => ret (.nx ss)
  | _ => stop
/-- names that are not asked any more -/
def kill (is : List Nat) : EvS := fun ss => ret (.nx (wipeS ss is))
/-- for: the items in turn -/
def forL (t : Tg) (b : EvS) (dead : List Nat) : List D → EvS
  | [] => fun ss => ret (.nx ss)
  | x :: xs => fun ss => match t x ss with
    | some ss1 => bnd (b ss1) fun o => match o with
      | .nx ss2 => forL t b dead xs (wipeS ss2 dead)
      | .ct ss2 => forL t b dead xs (wipeS ss2 dead)
      | .bk ss2 => ret (.nx ss2)
      | .rt d => ret (.rt d)
    | none => stop
def forS (src : EvL) (t : Tg) (b : EvS) (dead : List Nat) : EvS := fun ss => bnd (src ss) fun xs => forL t b dead xs ss
/-- while, at most n turns -/
def whl (c : EvT) (b : EvS) (dead : List Nat) : Nat → EvS
  | 0 => fun _ => stop
  | n + 1 => fun ss => bnd (c ss) fun k => if k then bnd (b ss) fun o => match o with
      | .nx ss2 => whl c b dead n (wipeS ss2 dead)
      | .ct ss2 => whl c b dead n (wipeS ss2 dead)
      | .bk ss2 => ret (.nx ss2)
      | .rt d => ret (.rt d)
    else ret (.nx ss)
/-- a def's body, m slots -/
def runF (m : Nat) (b : EvS) : Fn := fun as => bnd (b (as ++ List.replicate (m - as.length) .dead)) fun o => match o with
  | .rt d => ret d
  | .nx _ => ret .none
  | _ => stop
end Ev
end

section
set_option linter.all false
set_option maxRecDepth 100000
/-! How denotations stand over the abstract heap. -/
namespace Ev
open PySem L2

theorem lim_eq : lim = sizeLine := by rw [sizeLine_eq]; rfl

def keyD : Key → D
  | .inl i => .int i
  | .inr x => .str x

/-! ### data at values -/
mutual
inductive Dat (G : Hp) : V → D → Prop
  | non : Dat G .non .none
  | bl (b : Bool) : Dat G (.bl b) (.bool b)
  | int (i : Int) : Dat G (.int i) (.int i)
  | str (x : Str) : Dat G (.str x) (.str x)
  | tup {a : Addr} {o : Obj} {vs : List V} {ds : List D} : G a = some (.frz o (.tup vs)) → o.dict = none → DatL G vs ds → Dat G (.ref a) (.tuple ds)
  | lst {a : Addr} {vs : List V} {ds : List D} : G a = some (.lst vs) → DatL G vs ds → Dat G (.ref a) (.list ds)
  | dK {a : Addr} {kvs : List (Key × V)} {ks vs : List D} : G a = some (.dK kvs) → ks = kvs.map (fun p => keyD p.1) → DatL G (kvs.map (·.2)) vs → Dat G (.ref a) (.dict (ks.zip vs))
inductive DatL (G : Hp) : List V → List D → Prop
  | nil : DatL G [] []
  | cons {v : V} {vs : List V} {d : D} {ds : List D} : Dat G v d → DatL G vs ds → DatL G (v :: vs) (d :: ds)
end

mutual
theorem Dat.mono {G G' : Hp} (k : Same G G') : ∀ {v : V} {d : D}, Dat G v d → Dat G' v d
  | _, _, .non => .non
  | _, _, .bl b => .bl b
  | _, _, .int i => .int i
  | _, _, .str x => .str x
  | _, _, .tup h n l => .tup (k _ _ h) n (DatL.mono k l)
  | _, _, .lst h l => .lst (k _ _ h) (DatL.mono k l)
  | _, _, .dK h e l => .dK (k _ _ h) e (DatL.mono k l)
theorem DatL.mono {G G' : Hp} (k : Same G G') : ∀ {vs : List V} {ds : List D}, DatL G vs ds → DatL G' vs ds
  | _, _, .nil => .nil
  | _, _, .cons a b => .cons (Dat.mono k a) (DatL.mono k b)
end
theorem DatL.length {G : Hp} : ∀ {vs : List V} {ds : List D}, DatL G vs ds → vs.length = ds.length
  | _, _, .nil => rfl
  | _, _, .cons _ b => congrArg (· + 1) b.length
theorem DatL.app {G : Hp} : ∀ {vs ws : List V} {ds es : List D}, DatL G vs ds → DatL G ws es → DatL G (vs ++ ws) (ds ++ es)
  | _, _, _, _, .nil, b => b
  | _, _, _, _, .cons a t, b => .cons a (t.app b)
theorem DatL.get {G : Hp} : ∀ {vs : List V} {ds : List D} {i : Nat} {d : D}, DatL G vs ds → ds[i]? = some d → ∃ v, vs[i]? = some v ∧ Dat G v d
  | _, _, i, _, .nil, h => by simp at h
  | _, _, 0, _, .cons a t, h => by simp at h; subst h; exact ⟨_, rfl, a⟩
  | _, _, i + 1, d, .cons a t, h => by
    obtain ⟨v, e, q⟩ := t.get (i := i) (d := d) (by simpa using h)
    exact ⟨v, by simpa using e, q⟩
theorem DatL.getV {G : Hp} {vs : List V} {ds : List D} {i : Nat} {v : V} (h : DatL G vs ds) (e : vs[i]? = some v) : ∃ d, ds[i]? = some d ∧ Dat G v d := by
  have hi : i < ds.length := by rw [← h.length]; exact (List.getElem?_eq_some_iff.mp e).1
  obtain ⟨v', e', q⟩ := h.get (List.getElem?_eq_getElem hi)
  rw [e] at e'; cases e'
  exact ⟨_, List.getElem?_eq_getElem hi, q⟩
theorem DatL.take {G : Hp} : ∀ {vs : List V} {ds : List D} (n : Nat), DatL G vs ds → DatL G (vs.take n) (ds.take n)
  | _, _, 0, _ => .nil
  | _, _, _ + 1, .nil => .nil
  | _, _, n + 1, .cons a t => .cons a (t.take n)
theorem DatL.drop {G : Hp} : ∀ {vs : List V} {ds : List D} (n : Nat), DatL G vs ds → DatL G (vs.drop n) (ds.drop n)
  | _, _, 0, h => h
  | _, _, _ + 1, .nil => .nil
  | _, _, n + 1, .cons _ t => DatL.drop n t
theorem DatL.set {G : Hp} {v : V} {d : D} (q : Dat G v d) : ∀ {vs : List V} {ds : List D} (i : Nat), DatL G vs ds → DatL G (vs.set i v) (ds.set i d)
  | _, _, _, .nil => .nil
  | _, _, 0, .cons _ t => .cons q t
  | _, _, i + 1, .cons a t => .cons a (DatL.set q i t)
theorem DatL.eraseIdx {G : Hp} : ∀ {vs : List V} {ds : List D} (i : Nat), DatL G vs ds → DatL G (vs.eraseIdx i) (ds.eraseIdx i)
  | _, _, _, .nil => .nil
  | _, _, 0, .cons _ t => t
  | _, _, i + 1, .cons a t => .cons a (t.eraseIdx i)
theorem DatL.rev {G : Hp} {vs : List V} {ds : List D} (h : DatL G vs ds) : DatL G vs.reverse ds.reverse := by
  induction vs generalizing ds with
  | nil => cases h; exact .nil
  | cons v vs ih =>
    cases h with
    | cons a t => rw [List.reverse_cons, List.reverse_cons]; exact (ih t).app (.cons a .nil)
theorem DatL.rep {G : Hp} {vs : List V} {ds : List D} (h : DatL G vs ds) : ∀ k : Nat, DatL G (List.replicate k vs).flatten (List.replicate k ds).flatten
  | 0 => .nil
  | k + 1 => by
    rw [List.replicate_succ, List.replicate_succ, List.flatten_cons, List.flatten_cons]
    exact h.app (h.rep k)
theorem DatL.snoc {G : Hp} {vs : List V} {ds : List D} {v : V} {d : D} (h : DatL G vs ds) (q : Dat G v d) : DatL G (vs ++ [v]) (ds ++ [d]) := h.app (.cons q .nil)
theorem DatL.ints {G : Hp} : ∀ ns : List Int, DatL G (ns.map V.int) (ns.map PyData.int)
  | [] => .nil
  | n :: ns => .cons (.int n) (DatL.ints ns)
theorem DatL.of_ints {G : Hp} : ∀ {ns : List Int} {vs : List V}, DatL G vs (ns.map PyData.int) → vs = ns.map V.int
  | [], _, .nil => rfl
  | n :: ns, _, .cons a t => by cases a; rw [DatL.of_ints t]; rfl

/-! ### data that is seen: lists down to depth n are read off the heap of now -/
inductive Fa (R : V → D → Prop) : List V → List D → Prop
  | nil : Fa R [] []
  | cons {v : V} {vs : List V} {d : D} {ds : List D} : R v d → Fa R vs ds → Fa R (v :: vs) (d :: ds)
theorem Fa.imp {R S : V → D → Prop} (k : ∀ v d, R v d → S v d) : ∀ {vs : List V} {ds : List D}, Fa R vs ds → Fa S vs ds
  | _, _, .nil => .nil
  | _, _, .cons a b => .cons (k _ _ a) (b.imp k)
theorem Fa.dat {G : Hp} : ∀ {vs : List V} {ds : List D}, Fa (Dat G) vs ds → DatL G vs ds
  | _, _, .nil => .nil
  | _, _, .cons a b => .cons a b.dat
theorem Fa.of {G : Hp} : ∀ {vs : List V} {ds : List D}, DatL G vs ds → Fa (Dat G) vs ds
  | _, _, .nil => .nil
  | _, _, .cons a b => .cons a (Fa.of b)
theorem Fa.length {R : V → D → Prop} : ∀ {vs : List V} {ds : List D}, Fa R vs ds → vs.length = ds.length
  | _, _, .nil => rfl
  | _, _, .cons _ b => congrArg (· + 1) b.length
theorem Fa.get {R : V → D → Prop} : ∀ {vs : List V} {ds : List D} {i : Nat} {d : D}, Fa R vs ds → ds[i]? = some d → ∃ v, vs[i]? = some v ∧ R v d
  | _, _, i, _, .nil, h => by simp at h
  | _, _, 0, _, .cons a t, h => by simp at h; subst h; exact ⟨_, rfl, a⟩
  | _, _, i + 1, d, .cons a t, h => by
    obtain ⟨v, e, q⟩ := t.get (i := i) (d := d) (by simpa using h)
    exact ⟨v, by simpa using e, q⟩

def View : Nat → Hp → Hp → V → D → Prop
  | 0, G, _, v, d => Dat G v d
  | n + 1, G, H, v, d => Dat G v d ∨ (∃ p vs ds, v = .ref p ∧ d = .list ds ∧ H p = some (.lst vs) ∧ Fa (View n G H) vs ds) ∨
      (∃ p kvs ks vs, v = .ref p ∧ d = .dict (ks.zip vs) ∧ H p = some (.dK kvs) ∧ ks = kvs.map (fun q => keyD q.1) ∧ DatL G (kvs.map (·.2)) vs)
theorem View.of {G H : Hp} {v : V} {d : D} (h : Dat G v d) : ∀ n, View n G H v d
  | 0 => h
  | _ + 1 => .inl h
theorem View.mono {G G' H H' : Hp} (k : Same G G') (k' : Same H H') : ∀ {n : Nat} {v : V} {d : D}, View n G H v d → View n G' H' v d
  | 0, _, _, h => Dat.mono k h
  | n + 1, _, _, h => by
    rcases h with h | ⟨p, vs, ds, e1, e2, h, f⟩ | ⟨p, kvs, ks, vs, e1, e2, h, e3, l⟩
    · exact .inl (h.mono k)
    · exact .inr (.inl ⟨p, vs, ds, e1, e2, k' _ _ h, f.imp fun v d q => View.mono k k' q⟩)
    · exact .inr (.inr ⟨p, kvs, ks, vs, e1, e2, k' _ _ h, e3, l.mono k⟩)
theorem View.up {G H : Hp} : ∀ {n m : Nat} {v : V} {d : D}, n ≤ m → View n G H v d → View m G H v d
  | 0, m, _, _, _, h => View.of h m
  | n + 1, 0, _, _, l, _ => absurd l (by omega)
  | n + 1, m + 1, _, _, l, h => by
    rcases h with h | ⟨p, vs, ds, e1, e2, h, f⟩ | h
    · exact .inl h
    · exact .inr (.inl ⟨p, vs, ds, e1, e2, h, f.imp fun v d q => View.up (by omega) q⟩)
    · exact .inr (.inr h)
mutual
/-- what is seen is data of the heap of now -/
theorem View.dat {G H : Hp} (k : Same G H) : ∀ {n : Nat} {v : V} {d : D}, View n G H v d → Dat H v d
  | 0, _, _, h => Dat.mono k h
  | n + 1, _, _, h => by
    rcases h with h | ⟨p, vs, ds, e1, e2, h, f⟩ | ⟨p, kvs, ks, vs, e1, e2, h, e3, l⟩
    · exact h.mono k
    · subst e1; subst e2; exact .lst h (View.datL k f)
    · subst e1; subst e2; exact .dK h e3 (l.mono k)
theorem View.datL {G H : Hp} (k : Same G H) : ∀ {n : Nat} {vs : List V} {ds : List D}, Fa (View n G H) vs ds → DatL H vs ds
  | _, _, _, .nil => .nil
  | n, _, _, .cons a b => .cons (View.dat k (n := n) a) (View.datL k b)
end
/-- a list that is seen at depth 1: its items are data -/
theorem View.list {G H : Hp} {v : V} {ds : List D} {n : Nat} (k : Same G H) (h : View (n + 1) G H v (.list ds)) : ∃ p vs, v = .ref p ∧ H p = some (.lst vs) ∧ Fa (View n G H) vs ds := by
  rcases h with h | ⟨p, vs, ds', e1, e2, h, f⟩ | ⟨p, kvs, ks, vs, e1, e2, h, e3, l⟩
  · cases h with
    | lst h l => exact ⟨_, _, rfl, k _ _ h, (Fa.of l).imp fun v d q => View.of q n⟩
  · cases e2; exact ⟨p, vs, e1, h, f⟩
  · cases e2
theorem View.tuple {G H : Hp} {v : V} {ds : List D} {n : Nat} (h : View n G H v (.tuple ds)) : Dat G v (.tuple ds) := by
  cases n with
  | zero => exact h
  | succ n =>
    rcases h with h | ⟨p, vs, ds', e1, e2, h, f⟩ | ⟨p, kvs, ks, vs, e1, e2, h, e3, l⟩
    · exact h
    · cases e2
    · cases e2

/-! ### lists of our own -/
inductive OwnL (R : V → D → List Addr → Prop) : List V → List D → List Addr → Prop
  | nil : OwnL R [] [] []
  | cons {v : V} {vs : List V} {d : D} {ds : List D} {F F' : List Addr} : R v d F → OwnL R vs ds F' → OwnL R (v :: vs) (d :: ds) (F ++ F')
def Own : Nat → Hp → Hp → V → D → List Addr → Prop
  | 0, G, _, v, d, F => F = [] ∧ Dat G v d
  | n + 1, G, H, v, d, F => (∃ p vs ds F', v = .ref p ∧ d = .list ds ∧ H p = some (.lst vs) ∧ OwnL (Own n G H) vs ds F' ∧ F = p :: F') ∨
      (∃ p kvs ks vs, v = .ref p ∧ d = .dict (ks.zip vs) ∧ H p = some (.dK kvs) ∧ ks = kvs.map (fun q => keyD q.1) ∧ DatL G (kvs.map (·.2)) vs ∧ F = [p])
theorem OwnL.imp {R S : V → D → List Addr → Prop} : ∀ {vs : List V} {ds : List D} {F : List Addr}, OwnL R vs ds F → (∀ v d F', (∀ p ∈ F', p ∈ F) → R v d F' → S v d F') → OwnL S vs ds F
  | _, _, _, .nil, _ => .nil
  | _, _, _, .cons a b, k => .cons (k _ _ _ (fun p hp => List.mem_append_left _ hp) a) (b.imp fun v d F' s q => k v d F' (fun p hp => List.mem_append_right _ (s p hp)) q)
theorem OwnL.nil_of {G : Hp} {H : Hp} : ∀ {vs : List V} {ds : List D} {F : List Addr}, OwnL (Own 0 G H) vs ds F → F = [] ∧ DatL G vs ds
  | _, _, _, .nil => ⟨rfl, .nil⟩
  | _, _, _, .cons a b => by
    obtain ⟨e1, q⟩ := a
    obtain ⟨e2, l⟩ := b.nil_of
    subst e1; subst e2
    exact ⟨rfl, .cons q l⟩
theorem OwnL.of_dat {G : Hp} {H : Hp} : ∀ {vs : List V} {ds : List D}, DatL G vs ds → OwnL (Own 0 G H) vs ds []
  | _, _, .nil => .nil
  | _, _, .cons a b => OwnL.cons (F := []) (F' := []) ⟨rfl, a⟩ (OwnL.of_dat b)
/-- our own list lies as it lay: where its addresses are kept -/
theorem Own.keep {G G' H H' : Hp} (k : Same G G') : ∀ {n : Nat} {v : V} {d : D} {F : List Addr}, (∀ p ∈ F, H' p = H p) → Own n G H v d F → Own n G' H' v d F
  | 0, _, _, _, _, h => ⟨h.1, h.2.mono k⟩
  | n + 1, _, _, _, kh, h => by
    rcases h with ⟨p, vs, ds, F', e1, e2, h, l, e3⟩ | ⟨p, kvs, ks, vs, e1, e2, h, e3, l, e4⟩
    · subst e3
      exact .inl ⟨p, vs, ds, F', e1, e2, (kh p List.mem_cons_self).trans h, l.imp fun v d F'' s q => Own.keep k (fun p hp => kh p (List.mem_cons_of_mem _ (s p hp))) q, rfl⟩
    · subst e4
      exact .inr ⟨p, kvs, ks, vs, e1, e2, (kh p List.mem_cons_self).trans h, e3, l.mono k, rfl⟩
theorem OwnL.view {R : V → D → List Addr → Prop} {S : V → D → Prop} (k : ∀ v d F, R v d F → S v d) : ∀ {vs : List V} {ds : List D} {F : List Addr}, OwnL R vs ds F → Fa S vs ds
  | _, _, _, .nil => .nil
  | _, _, _, .cons a b => .cons (k _ _ _ a) (b.view k)
theorem Own.view {G H : Hp} : ∀ {n : Nat} {v : V} {d : D} {F : List Addr}, Own n G H v d F → View n G H v d
  | 0, _, _, _, h => h.2
  | n + 1, _, _, _, h => by
    rcases h with ⟨p, vs, ds, F', e1, e2, h, l, e3⟩ | ⟨p, kvs, ks, vs, e1, e2, h, e3, l, e4⟩
    · exact .inr (.inl ⟨p, vs, ds, e1, e2, h, l.view fun v d F q => Own.view q⟩)
    · exact .inr (.inr ⟨p, kvs, ks, vs, e1, e2, h, e3, l⟩)
/-- each address of our own list is a tracked one -/
theorem OwnL.all {R : V → D → List Addr → Prop} {P : Addr → Prop} (k : ∀ v d F, R v d F → ∀ p ∈ F, P p) : ∀ {vs : List V} {ds : List D} {F : List Addr}, OwnL R vs ds F → ∀ p ∈ F, P p
  | _, _, _, .nil => fun p hp => by cases hp
  | _, _, _, .cons a b => fun p hp => (List.mem_append.mp hp).elim (k _ _ _ a p) (b.all k p)
theorem Own.there {G H : Hp} : ∀ {n : Nat} {v : V} {d : D} {F : List Addr}, Own n G H v d F → ∀ p ∈ F, H p ≠ none
  | 0, _, _, _, h, p, hp => by rw [h.1] at hp; cases hp
  | n + 1, _, _, _, h, q, hq => by
    rcases h with ⟨p, vs, ds, F', e1, e2, h, l, e3⟩ | ⟨p, kvs, ks, vs, e1, e2, h, e3, l, e4⟩
    · subst e3
      rcases List.mem_cons.mp hq with z | z
      · subst z; rw [h]; exact fun z => by cases z
      · exact l.all (fun v d F q => Own.there q) q z
    · subst e4
      obtain rfl := List.mem_singleton.mp hq
      rw [h]; exact fun z => by cases z
/-- given out for good: its addresses join what stands still -/
def glue (G H : Hp) (F : List Addr) : Hp := fun a => if a ∈ F then H a else G a
theorem glue_in {G H : Hp} {F : List Addr} {a : Addr} (h : a ∈ F) : glue G H F a = H a := if_pos h
theorem glue_out {G H : Hp} {F : List Addr} {a : Addr} (h : a ∉ F) : glue G H F a = G a := if_neg h
theorem OwnL.glue {G H K : Hp} {n : Nat} (k : Same G K) (ih : ∀ v d F, (∀ p ∈ F, K p = H p) → Own n G H v d F → Dat K v d) : ∀ {vs : List V} {ds : List D} {F : List Addr}, (∀ p ∈ F, K p = H p) → OwnL (Own n G H) vs ds F → DatL K vs ds
  | _, _, _, _, .nil => .nil
  | _, _, _, h, .cons a b => .cons (ih _ _ _ (fun p hp => h p (List.mem_append_left _ hp)) a) (b.glue k ih fun p hp => h p (List.mem_append_right _ hp))
theorem Own.dat {G H K : Hp} (k : Same G K) : ∀ {n : Nat} {v : V} {d : D} {F : List Addr}, (∀ p ∈ F, K p = H p) → Own n G H v d F → Dat K v d
  | 0, _, _, _, _, h => h.2.mono k
  | n + 1, _, _, _, kh, h => by
    rcases h with ⟨p, vs, ds, F', e1, e2, h, l, e3⟩ | ⟨p, kvs, ks, vs, e1, e2, h, e3, l, e4⟩
    · subst e1; subst e2; subst e3
      exact .lst ((kh p List.mem_cons_self).trans h) (l.glue k (fun v d F a b => Own.dat k a b) fun p hp => kh p (List.mem_cons_of_mem _ hp))
    · subst e1; subst e2; subst e4
      exact .dK ((kh p List.mem_cons_self).trans h) e3 (l.mono k)
end Ev
end

section
set_option linter.all false
set_option maxRecDepth 100000
/-! The state of a body, what an expression and a statement keep. -/
namespace Ev
open PySem L2

/-! ### the source of drawn numbers -/
def kCells : Str := "cells"
def kLeft : Str := "left"
def kMixed : Str := "mixed"
def kTurn : Str := "turn"
def srcD (c : Addr) (s : Src) : List (Key × V) := [(.inr kCells, .ref c), (.inr kLeft, .int s.left), (.inr kMixed, .int s.mixed), (.inr kTurn, .int s.turn)]
def SrcOk (sa : List Addr) (H : Hp) (s : Src) : Prop := sa = [] ∨ ∃ p c, sa = [p, c] ∧ p ≠ c ∧ H p = some (.dK (srcD c s)) ∧ H c = some (.lst (s.cells.map V.int))
def msk (sa : List Addr) (H : Hp) : Hp := fun a => if a ∈ sa then none else H a
theorem msk_out {sa : List Addr} {H : Hp} {a : Addr} (h : a ∉ sa) : msk sa H a = H a := if_neg h
theorem msk_some {sa : List Addr} {H : Hp} {a : Addr} {o : HO} (h : msk sa H a = some o) : a ∉ sa ∧ H a = some o := by
  unfold msk at h
  split at h
  · cases h
  · exact ⟨by assumption, h⟩
theorem msk_sub {sa : List Addr} {H : Hp} : Same (msk sa H) H := fun a o h => (msk_some h).2
theorem SrcOk.there {sa : List Addr} {H : Hp} {s : Src} (h : SrcOk sa H s) : ∀ a ∈ sa, H a ≠ none := by
  rcases h with e | ⟨p, c, e, ne, h1, h2⟩
  · subst e; intro a ha; cases ha
  · subst e
    intro a ha
    rcases List.mem_cons.mp ha with z | z
    · subst z; rw [h1]; exact fun z => by cases z
    · obtain rfl := List.mem_singleton.mp z
      rw [h2]; exact fun z => by cases z
theorem SrcOk.keep {sa : List Addr} {H H' : Hp} {s : Src} (h : SrcOk sa H s) (k : ∀ a ∈ sa, H' a = H a) : SrcOk sa H' s := by
  rcases h with e | ⟨p, c, e, ne, h1, h2⟩
  · exact .inl e
  · subst e
    exact .inr ⟨p, c, rfl, ne, (k p (by simp)).trans h1, (k c (by simp)).trans h2⟩

/-! ### the ground: what stood at the entry -/
structure Gh where
  G0 : Hp
  B : Hp
  Old : Addr → Prop
  sa : List Addr
/-- what is lent to us was there -/
def Gh.Wf (g : Gh) : Prop := ∀ a, g.B a ≠ none → g.Old a
structure RelE (g : Gh) (G H : Hp) (s : Src) : Prop where
  gh : Same G (msk g.sa H)
  bh : Same g.B (msk g.sa H)
  g0 : Same g.G0 G
  new : ∀ a, G a ≠ none → g.G0 a ≠ none ∨ ¬ g.Old a
  old : ∀ a, g.Old a → H a ≠ none
  src : SrcOk g.sa H s
def SlotOk (g : Gh) (G H : Hp) (so : Option (Option V)) (F : List Addr) : Option Slot → Prop
  | some (.vw n d) => ∃ v, so = some (some v) ∧ View n G g.B v d ∧ F = []
  | some (.own n d) => ∃ v, so = some (some v) ∧ Own n G H v d F
  | some (.lck n d) => ∃ v, so = some (some v) ∧ Own n G H v d F
  | some .src => ∃ p c, so = some (some (.ref p)) ∧ g.sa = [p, c] ∧ F = []
  | some .dead => F = []
  | none => F = []
structure RelF (g : Gh) (G H : Hp) (σ : St) (ss : Slots) (F : Nat → List Addr) : Prop where
  ok : ∀ i, SlotOk g G H σ[i]? (F i) ss[i]?
  nd : ∀ i, (F i).Nodup
  out : ∀ i p, p ∈ F i → G p = none ∧ p ∉ g.sa ∧ ¬ g.Old p
  dis : ∀ i j p, p ∈ F i → p ∈ F j → i = j
structure Rel (g : Gh) (G H : Hp) (σ : St) (ss : Slots) (s : Src) : Prop where
  e : RelE g G H s
  len : σ.length = ss.length
  f : ∃ F, RelF g G H σ ss F
/-- what stands still grew, what is seen stands as it stood -/
structure Adv (sa : List Addr) (G H G' H' : Hp) : Prop where
  g : Same G G'
  h : Same (msk sa H) (msk sa H')
  new : ∀ a, G' a ≠ none → G a ≠ none ∨ H a = none
theorem SlotOk.there {g : Gh} {G H : Hp} {so : Option (Option V)} {F : List Addr} : ∀ {sl : Option Slot}, SlotOk g G H so F sl → ∀ p ∈ F, H p ≠ none
  | some (.vw n d), ⟨_, _, _, e⟩, p, hp => by rw [e] at hp; cases hp
  | some (.own n d), ⟨_, _, h⟩, p, hp => h.there p hp
  | some (.lck n d), ⟨_, _, h⟩, p, hp => h.there p hp
  | some .src, ⟨_, _, _, _, e⟩, p, hp => by rw [e] at hp; cases hp
  | some .dead, e, p, hp => by rw [show F = [] from e] at hp; cases hp
  | none, e, p, hp => by rw [show F = [] from e] at hp; cases hp
theorem SlotOk.keep {g : Gh} {G H G' H' : Hp} {so : Option (Option V)} {F : List Addr} (k : Same G G') (kh : ∀ p ∈ F, H' p = H p) : ∀ {sl : Option Slot}, SlotOk g G H so F sl → SlotOk g G' H' so F sl
  | some (.vw n d), ⟨v, e, q, z⟩ => ⟨v, e, q.mono k fun _ _ h => h, z⟩
  | some (.own n d), ⟨v, e, h⟩ => ⟨v, e, h.keep k kh⟩
  | some (.lck n d), ⟨v, e, h⟩ => ⟨v, e, h.keep k kh⟩
  | some .src, h => h
  | some .dead, h => h
  | none, h => h
theorem Adv.refl (sa : List Addr) (G H : Hp) : Adv sa G H G H := ⟨fun _ _ h => h, fun _ _ h => h, fun _ h => .inl h⟩
theorem Adv.trans {g : Gh} {G H G1 H1 G2 H2 : Hp} {s : Src} (a : Adv g.sa G H G1 H1) (r : RelE g G1 H1 s) (b : Adv g.sa G1 H1 G2 H2) (r2 : ∃ s2, RelE g G2 H2 s2) : Adv g.sa G H G2 H2 := by
  refine ⟨fun x o h => b.g x o (a.g x o h), fun x o h => b.h x o (a.h x o h), fun x h => ?_⟩
  obtain ⟨s2, r2⟩ := r2
  rcases b.new x h with z | z
  · exact a.new x z
  · right
    cases q : H x with
    | none => rfl
    | some o =>
      have hx : x ∉ g.sa := by
        cases q2 : G2 x with
        | none => exact absurd q2 h
        | some o2 => exact (msk_some (r2.gh x o2 q2)).1
      have := a.h x o (by rw [msk_out hx]; exact q)
      rw [msk_out hx, z] at this
      cases this
theorem Rel.ext {g : Gh} {G H G' H' : Hp} {σ : St} {ss : Slots} {s s' : Src} (r : Rel g G H σ ss s) (a : Adv g.sa G H G' H') (r' : RelE g G' H' s') : Rel g G' H' σ ss s' := by
  obtain ⟨F, f⟩ := r.f
  have kp : ∀ i p, p ∈ F i → H' p = H p := fun i p hp => by
    cases q : H p with
    | none => exact absurd q ((f.ok i).there p hp)
    | some o =>
      have hx := (f.out i p hp).2.1
      have := a.h p o (by rw [msk_out hx]; exact q)
      rw [msk_out hx] at this
      exact this
  refine ⟨r', r.len, F, fun i => (f.ok i).keep a.g fun p hp => kp i p hp, f.nd, fun i p hp => ⟨?_, (f.out i p hp).2⟩, f.dis⟩
  cases q : G' p with
  | none => rfl
  | some o =>
    rcases a.new p (by rw [q]; exact fun z => by cases z) with z | z
    · exact absurd (f.out i p hp).1 z
    · exact absurd z ((f.ok i).there p hp)
/-- names forgotten -/
theorem wipe_ix (ss : Slots) (i : Nat) : ∀ is : List Nat, (wipeS ss is)[i]? = if i ∈ is then (if i < ss.length then some .dead else none) else ss[i]?
  | [] => by simp [wipeS]
  | j :: is => by
    have ih := wipe_ix ss i is
    have hl : ∀ l : List Nat, (wipeS ss l).length = ss.length := fun l => by
      induction l with
      | nil => rfl
      | cons k l ih => show ((wipeS ss l).set k .dead).length = _; rw [List.length_set, ih]
    show ((wipeS ss is).set j .dead)[i]? = _
    rw [List.getElem?_set]
    by_cases e : j = i
    · subst e
      rw [if_pos rfl, if_pos List.mem_cons_self, hl]
    · rw [if_neg e, ih]
      have : (i ∈ j :: is) ↔ i ∈ is := by
        rw [List.mem_cons]
        exact ⟨fun h => h.elim (fun z => absurd z.symm e) id, .inr⟩
      simp only [this]
theorem wipeS_length (ss : Slots) : ∀ l : List Nat, (wipeS ss l).length = ss.length
  | [] => rfl
  | k :: l => by show ((wipeS ss l).set k .dead).length = _; rw [List.length_set, wipeS_length ss l]
theorem RelF.weak {g : Gh} {G H : Hp} {σ σ' : St} {ss : Slots} {F : Nat → List Addr} (r : RelF g G H σ ss F) (is : List Nat) (k : ∀ i, i ∉ is → σ'[i]? = σ[i]?) : RelF g G H σ' (wipeS ss is) (fun i => if i ∈ is then [] else F i) := by
  refine ⟨fun i => ?_, fun i => ?_, fun i p hp => ?_, fun i j p hi hj => ?_⟩
  · skip
    rw [wipe_ix]
    by_cases h : i ∈ is
    · rw [if_pos h, if_pos h]
      split <;> rfl
    · rw [if_neg h, if_neg h, k i h]
      exact r.ok i
  · skip
    split
    · exact List.nodup_nil
    · exact r.nd i
  · skip
    split at hp
    · cases hp
    · exact r.out i p hp
  · skip
    split at hi
    · cases hi
    · split at hj
      · cases hj
      · exact r.dis i j p hi hj
theorem Rel.weak {g : Gh} {G H : Hp} {σ σ' : St} {ss : Slots} {s : Src} (r : Rel g G H σ ss s) (is : List Nat) (hl : σ'.length = σ.length) (k : ∀ i, i ∉ is → σ'[i]? = σ[i]?) : Rel g G H σ' (wipeS ss is) s := by
  obtain ⟨F, f⟩ := r.f
  exact ⟨r.e, by rw [hl, r.len, wipeS_length], _, f.weak is k⟩
/-- a name is given something -/
theorem RelF.putF {g : Gh} {G H : Hp} {σ : St} {ss : Slots} {F : Nat → List Addr} {i : Nat} {v : V} {sl : Slot} {F' : List Addr} (r : RelF g G H σ ss F) (hl : σ.length = ss.length) (ok : SlotOk g G H (some (some v)) F' (some sl)) (nd : F'.Nodup)
    (out : ∀ p ∈ F', G p = none ∧ p ∉ g.sa ∧ ¬ g.Old p) (dis : ∀ j, j ≠ i → ∀ p ∈ F', p ∉ F j) : ∃ F2, RelF g G H (σ.set i (some v)) (ss.set i sl) F2 ∧ ∀ j p, p ∈ F2 j → p ∈ F' ∨ p ∈ F j := by
  by_cases hi : i < ss.length
  · refine ⟨fun j => if j = i then F' else F j, ⟨fun j => ?_, fun j => ?_, fun j p hp => ?_, fun j k p hj hk => ?_⟩, fun j p hp => by
      dsimp only at hp
      split at hp
      · exact .inl hp
      · exact .inr hp⟩
    · skip
      by_cases e : j = i
      · subst e
        rw [if_pos rfl, List.getElem?_set_self (by rw [hl]; exact hi), List.getElem?_set_self hi]
        exact ok
      · rw [if_neg e, List.getElem?_set_ne (Ne.symm e), List.getElem?_set_ne (Ne.symm e)]
        exact r.ok j
    · skip
      split
      · exact nd
      · exact r.nd j
    · skip
      split at hp
      · exact out p hp
      · exact r.out j p hp
    · skip
      by_cases e1 : j = i
      · by_cases e2 : k = i
        · rw [e1, e2]
        · rw [if_pos e1] at hj
          rw [if_neg e2] at hk
          exact absurd hk (dis k e2 p hj)
      · by_cases e2 : k = i
        · rw [if_neg e1] at hj
          rw [if_pos e2] at hk
          exact absurd hj (dis j e1 p hk)
        · rw [if_neg e1] at hj
          rw [if_neg e2] at hk
          exact r.dis j k p hj hk
  · rw [List.set_eq_of_length_le (by rw [hl]; omega), List.set_eq_of_length_le (by omega)]
    exact ⟨F, r, fun j p hp => .inr hp⟩
theorem RelF.put {g : Gh} {G H : Hp} {σ : St} {ss : Slots} {F : Nat → List Addr} {i : Nat} {v : V} {sl : Slot} {F' : List Addr} (r : RelF g G H σ ss F) (hl : σ.length = ss.length) (ok : SlotOk g G H (some (some v)) F' (some sl)) (nd : F'.Nodup)
    (out : ∀ p ∈ F', G p = none ∧ p ∉ g.sa ∧ ¬ g.Old p) (dis : ∀ j, j ≠ i → ∀ p ∈ F', p ∉ F j) : ∃ F2, RelF g G H (σ.set i (some v)) (ss.set i sl) F2 := by
  obtain ⟨F2, h, _⟩ := r.putF hl ok nd out dis
  exact ⟨F2, h⟩
theorem Rel.put {g : Gh} {G H : Hp} {σ : St} {ss : Slots} {s : Src} {i : Nat} {v : V} {n : Nat} {d : D} (r : Rel g G H σ ss s) (h : View n G g.B v d) : Rel g G H (σ.set i (some v)) (ss.set i (.vw n d)) s := by
  obtain ⟨F, f⟩ := r.f
  refine ⟨r.e, by rw [List.length_set, List.length_set]; exact r.len, f.put r.len ⟨v, rfl, h, rfl⟩ List.nodup_nil (fun p hp => by cases hp) fun j _ p hp => by cases hp⟩

/-! ### readings -/
/-- an expression: its value is seen at depth n -/
def tE (n : Nat) (f : EvE) : TE := fun σ H Q => ∃ g G ss s d s', Rel g G H σ ss s ∧ f ss s = some (d, s') ∧
  ∀ v G' H', RelE g G' H' s' → Adv g.sa G H G' H' → View n G' (msk g.sa H') v d → Q v H'
def tT (f : EvT) : TT := fun σ H Q => ∃ g G ss s b s', Rel g G H σ ss s ∧ f ss s = some (b, s') ∧
  ∀ G' H', RelE g G' H' s' → Adv g.sa G H G' H' → Q b H'
def tL (f : EvL) : TA := fun σ H Q => ∃ g G ss s ds s', Rel g G H σ ss s ∧ f ss s = some (ds, s') ∧
  ∀ vs G' H', RelE g G' H' s' → Adv g.sa G H G' H' → DatL G' vs ds → Q vs H'
/-- a new list: all its addresses are new -/
structure Fresh (sa : List Addr) (H G' : Hp) (F : List Addr) : Prop where
  nd : F.Nodup
  new : ∀ p ∈ F, H p = none ∧ G' p = none
def tF (k : Nat) (f : EvE) : TE := fun σ H Q => ∃ g G ss s d s', Rel g G H σ ss s ∧ f ss s = some (d, s') ∧
  ∀ v G' H' F, RelE g G' H' s' → Adv g.sa G H G' H' → Own k G' H' v d F → Fresh g.sa H G' F → Q v H'
def argOk (sa : List Addr) (G H : Hp) (v : V) : Slot → Prop
  | .vw n d => View n G H v d
  | .src => ∃ p c, sa = [p, c] ∧ v = .ref p
  | _ => False
inductive ArgsOk (sa : List Addr) (G H : Hp) : List V → List Slot → Prop
  | nil : ArgsOk sa G H [] []
  | cons {v : V} {vs : List V} {a : Slot} {as : List Slot} : argOk sa G H v a → ArgsOk sa G H vs as → ArgsOk sa G H (v :: vs) (a :: as)
def tA (f : EvA) : TA := fun σ H Q => ∃ g G ss s as s', Rel g G H σ ss s ∧ f ss s = some (as, s') ∧
  ∀ vs G' H', RelE g G' H' s' → Adv g.sa G H G' H' → ArgsOk g.sa G' (msk g.sa H') vs as → Q vs H'
def OutOk (g : Gh) (G : Hp) (D : Ends) (s' : Src) : Out → Prop
  | .nx ss' => ∀ σ' G' H', Rel g G' H' σ' ss' s' → Same G G' → D.nx σ' H'
  | .bk ss' => ∀ σ' G' H', Rel g G' H' σ' ss' s' → Same G G' → D.bk σ' H'
  | .ct ss' => ∀ σ' G' H', Rel g G' H' σ' ss' s' → Same G G' → D.ct σ' H'
  | .rt d => ∀ v G' H', RelE g G' H' s' → Same G G' → Dat G' v d → D.rt v H'
def tS (f : EvS) : TS := fun D σ H => ∃ g G ss s o s', g.Wf ∧ Rel g G H σ ss s ∧ f ss s = some (o, s') ∧ OutOk g G D s' o

structure SE (X : Cx) (n : Nat) (e : Expr) (f : EvE) : Prop where
  pe : PE X e (tE n f)
structure SF (X : Cx) (k : Nat) (e : Expr) (f : EvE) : Prop where
  pe : PE X e (tF k f)
structure ST (X : Cx) (e : Expr) (f : EvT) : Prop where
  pt : PT X e (tT f)
structure SL (X : Cx) (es : List Expr) (f : EvL) : Prop where
  pa : PA X es (tL f)
structure SA (X : Cx) (es : List Expr) (f : EvA) : Prop where
  pa : PA X es (tA f)
  len : ∀ ss s as s', f ss s = some (as, s') → as.length = es.length
structure SS (X : Cx) (st : Stmt) (f : EvS) : Prop where
  ps : PS X st (tS f)
structure SB (X : Cx) (sts : List Stmt) (f : EvS) : Prop where
  ps : PSs X sts (tS f)

theorem peMono {X : Cx} {e : Expr} {t t' : TE} (h : PE X e t) (k : ∀ σ H Q, t' σ H Q → t σ H Q) : PE X e t' := ⟨fun pins s σ H Q I q => h.run pins s σ H Q I (k σ H Q q)⟩
theorem ptMono {X : Cx} {e : Expr} {t t' : TT} (h : PT X e t) (k : ∀ σ H Q, t' σ H Q → t σ H Q) : PT X e t' := ⟨fun pins s σ H Q I q => h.run pins s σ H Q I (k σ H Q q)⟩
theorem paMono {X : Cx} {e : List Expr} {t t' : TA} (h : PA X e t) (k : ∀ σ H Q, t' σ H Q → t σ H Q) : PA X e t' := ⟨fun pos pins s σ H Q I q => h.run pos pins s σ H Q I (k σ H Q q)⟩
theorem psMono {X : Cx} {e : Stmt} {t t' : TS} (h : PS X e t) (k : ∀ D σ H, t' D σ H → t D σ H) : PS X e t' := ⟨fun pins s σ H D I q => h.run pins s σ H D I (k D σ H q)⟩
theorem pssMono {X : Cx} {e : List Stmt} {t t' : TS} (h : PSs X e t) (k : ∀ D σ H, t' D σ H → t D σ H) : PSs X e t' := ⟨fun pins s σ H D I q => h.run pins s σ H D I (k D σ H q)⟩

section
variable {X : Cx} {n m : Nat} {e : Expr} {f : EvE}
theorem SE.up (h : SE X n e f) (l : n ≤ m) : SE X m e f := ⟨peMono h.pe fun σ H Q ⟨g, G, ss, s, d, s', r, ef, q⟩ =>
  ⟨g, G, ss, s, d, s', r, ef, fun v G' H' r' a w => q v G' H' r' a (w.up l)⟩⟩
/-- new things laid -/
theorem RelE.laid {g : Gh} {G H : Hp} {s : Src} {p : Addr} {o : HO} (r : RelE g G H s) (hp : H p = none) : RelE g G (upd H p o) s ∧ Adv g.sa G H G (upd H p o) := by
  have np : p ∉ g.sa := fun z => r.src.there p z hp
  have sm : Same (msk g.sa H) (msk g.sa (upd H p o)) := fun a u h => by
    obtain ⟨h1, h2⟩ := msk_some h
    rw [msk_out h1, upd_ne (fun z => by rw [z, hp] at h2; cases h2)]
    exact h2
  refine ⟨⟨fun a u h => sm a u (r.gh a u h), fun a u h => sm a u (r.bh a u h), r.g0, r.new, fun a ha => ?_, r.src.keep fun a ha => ?_⟩, fun _ _ h => h, sm, fun _ h => .inl h⟩
  · by_cases e : a = p
    · subst e; rw [upd_same]; exact fun z => by cases z
    · rw [upd_ne e]; exact r.old a ha
  · rw [upd_ne (fun z : a = p => np (by rw [← z]; exact ha))]
/-- .. and counted to what stands still -/
theorem RelE.glue {g : Gh} {G H0 G' H' : Hp} {s : Src} {F : List Addr} (r : RelE g G' H' s) (a : Adv g.sa G H0 G' H') (hF : ∀ p ∈ F, H0 p = none ∧ G' p = none) (hs : ∀ x, g.Old x → H0 x ≠ none) (hsa : ∀ x ∈ g.sa, H0 x ≠ none) :
    RelE g (glue G' H' F) H' s ∧ Adv g.sa G H0 (glue G' H' F) H' ∧ Same G' (glue G' H' F) := by
  have sm : Same G' (Ev.glue G' H' F) := fun x o h => by
    rw [glue_out (fun z => by rw [(hF x z).2] at h; cases h)]
    exact h
  refine ⟨⟨fun x o h => ?_, r.bh, fun x o h => sm x o (r.g0 x o h), fun x h => ?_, r.old, r.src⟩, ⟨fun x o h => sm x o (a.g x o h), a.h, fun x h => ?_⟩, sm⟩
  · by_cases e : x ∈ F
    · rw [glue_in e] at h
      rw [msk_out (fun z => hsa x z (hF x e).1)]
      exact h
    · rw [glue_out e] at h
      exact r.gh x o h
  · by_cases e : x ∈ F
    · exact .inr fun z => hs x z (hF x e).1
    · rw [glue_out e] at h
      exact r.new x h
  · by_cases e : x ∈ F
    · exact .inr (hF x e).1
    · rw [glue_out e] at h
      exact a.new x h
/-- a new list is data -/
theorem SF.se {k : Nat} (h : SF X k e f) : SE X 0 e f := ⟨peMono h.pe fun σ H Q ⟨g, G, ss, s, d, s', r, ef, q⟩ =>
  ⟨g, G, ss, s, d, s', r, ef, fun v G' H' F r' a w fr => by
    obtain ⟨r2, a2, sm⟩ := r'.glue a fr.new r.e.old r.e.src.there
    exact q v _ H' r2 a2 (w.dat sm fun p hp => glue_in hp)⟩⟩
end
end Ev
end

section
set_option linter.all false
set_option maxRecDepth 100000
/-! Rules: names, constants, operators. -/
namespace Ev
open PySem L2

theorem mskKeep {sa : List Addr} {H : Hp} {F : List Addr} (h : ∀ p ∈ F, p ∉ sa) : ∀ p ∈ F, msk sa H p = H p := fun p hp => msk_out (h p hp)
section
variable {X : Cx} {n m : Nat} {e a b c : Expr} {f fa fb fc : EvE} {pos : Pos}

/-! ### names, constants -/
theorem se_rd {i : Nat} (h : PE X e (tVar i)) : SE X n e (rd n i) := ⟨peMono h fun σ H Q ⟨g, G, ss, s, d, s', r, ef, q⟩ => by
  obtain ⟨F, rf⟩ := r.f
  have ok := rf.ok i
  have fin : ∀ v k, σ[i]? = some (some v) → View k G (msk g.sa H) v d → k ≤ n → s' = s → ∃ v, σ[i]? = some (some v) ∧ Q v H := fun v k e w l es =>
    ⟨v, e, q v G H (es ▸ r.e) (Adv.refl _ _ _) (w.up l)⟩
  unfold rd at ef
  revert ok ef
  cases hs : ss[i]? with
  | none => intro ef ok; cases ef
  | some sl =>
    cases sl with
    | dead => intro ef ok; cases ef
    | src => intro ef ok; cases ef
    | vw k d' =>
      intro ef ok
      obtain ⟨v, e1, w, _⟩ := ok
      dsimp only at ef
      split at ef
      · rename_i l
        obtain ⟨e2, e3⟩ := ret_inv ef
        subst e2
        exact fin v k e1 (w.mono (fun _ _ h => h) r.e.bh) l e3
      · cases ef
    | own k d' =>
      intro ef ok
      obtain ⟨v, e1, w⟩ := ok
      dsimp only at ef
      split at ef
      · rename_i l
        obtain ⟨e2, e3⟩ := ret_inv ef
        subst e2
        exact fin v k e1 (w.keep (H' := msk g.sa H) (fun _ _ h => h) (mskKeep fun p hp => (rf.out i p hp).2.1)).view l e3
      · cases ef
    | lck k d' =>
      intro ef ok
      obtain ⟨v, e1, w⟩ := ok
      dsimp only at ef
      split at ef
      · rename_i l
        obtain ⟨e2, e3⟩ := ret_inv ef
        subst e2
        exact fin v k e1 (w.keep (H' := msk g.sa H) (fun _ _ h => h) (mskKeep fun p hp => (rf.out i p hp).2.1)).view l e3
      · cases ef⟩
theorem se_c {v : V} {d : D} (h : PE X e (tC v)) (w : ∀ G, Dat G v d) : SE X n e (cst d) := ⟨peMono h fun σ H Q ⟨g, G, ss, s, d', s', r, ef, q⟩ => by
  obtain ⟨e1, e2⟩ := ret_inv ef
  subst e1; subst e2
  exact q v G H r.e (Adv.refl _ _ _) (.of (w G) n)⟩
theorem se_int {i : Int} {j : Nat} : SE X n (.Constant (.int i) j pos) (cst (.int i)) := se_c pe_int fun _ => .int i
theorem se_bl {b : Bool} {j : Nat} : SE X n (.Constant (.bool b) j pos) (cst (.bool b)) := se_c pe_bl fun _ => .bl b
theorem se_non {j : Nat} : SE X n (.Constant .none j pos) (cst .none) := se_c pe_non fun _ => .non
theorem se_str {x : Str} {j : Nat} : SE X n (.Constant (.str x) j pos) (cst (.str x)) := se_c pe_str fun _ => .str x

/-! ### operators -/
/-- an operator on values that are seen at depth m does what op says; what comes is data -/
def Op2 (X : Cx) (m : Nat) (F : Value → Value → Sem Value) (op : D → D → Option D) : Prop := ∃ r, OpR X F r ∧ ∀ (g : Gh) (G H : Hp) (s : Src) (x y : V) (dx dy d : D) (Q : VK), RelE g G H s → View m G (msk g.sa H) x dx → View m G (msk g.sa H) y dy → op dx dy = some d →
  (∀ v G' H', RelE g G' H' s → Adv g.sa G H G' H' → Dat G' v d → Q v H') → r x y H Q
def Op1 (X : Cx) (m : Nat) (F : Value → Sem Value) (op : D → Option D) : Prop := ∃ r, UnR X F r ∧ ∀ (g : Gh) (G H : Hp) (s : Src) (x : V) (dx d : D) (Q : VK), RelE g G H s → View m G (msk g.sa H) x dx → op dx = some d →
  (∀ v G' H', RelE g G' H' s → Adv g.sa G H G' H' → Dat G' v d → Q v H') → r x H Q

theorem bin_run {g : Gh} {G H : Hp} {σ : St} {ss : Slots} {s s' : Src} {d : D} {op : D → D → Option D} {Q : VK} {r : R2} (R : Rel g G H σ ss s) (ef : bin op fa fb ss s = some (d, s'))
    (hr : ∀ (g : Gh) (G H : Hp) (s : Src) (x y : V) (dx dy d : D) (Q : VK), RelE g G H s → View m G (msk g.sa H) x dx → View m G (msk g.sa H) y dy → op dx dy = some d → (∀ v G' H', RelE g G' H' s → Adv g.sa G H G' H' → Dat G' v d → Q v H') → r x y H Q)
    (q : ∀ v G' H', RelE g G' H' s' → Adv g.sa G H G' H' → View n G' (msk g.sa H') v d → Q v H') : tE m fa σ H fun x H1 => tE m fb σ H1 fun y H2 => r x y H2 Q := by
  obtain ⟨dx, s1, e1, ef⟩ := bnd_inv ef
  obtain ⟨dy, s2, e2, ef⟩ := bnd_inv ef
  obtain ⟨e3, e4⟩ := lft_inv ef
  subst e4
  refine ⟨g, G, ss, s, dx, s1, R, e1, fun x G1 H1 R1 A1 w1 => ?_⟩
  refine ⟨g, G1, ss, s1, dy, s', R.ext A1 R1, e2, fun y G2 H2 R2 A2 w2 => ?_⟩
  refine hr g G2 H2 s' x y dx dy d Q R2 (w1.mono A2.g A2.h) w2 e3 fun v G' H' R' A' w => ?_
  exact q v G' H' R' ((A1.trans R1 A2 ⟨_, R2⟩).trans R2 A' ⟨_, R'⟩) (.of w n)
theorem se_bin {o : Operator} {op : D → D → Option D} (h : Op2 X m (binaryOp o) op) (ha : SE X m a fa) (hb : SE X m b fb) : SE X n (.BinOp a o b pos) (bin op fa fb) := by
  obtain ⟨r, ho, hr⟩ := h
  exact ⟨peMono (pe_op ho ha.pe hb.pe) fun σ H Q ⟨g, G, ss, s, d, s', R, ef, q⟩ => bin_run R ef hr q⟩
theorem se_cmp {o : CmpOp} {op : D → D → Option D} (h : Op2 X m (compareOp o) op) (ha : SE X m a fa) (hb : SE X m b fb) (hm : behindInMarks o b = false) : SE X n (.Compare a [o] [b] pos) (bin op fa fb) := by
  obtain ⟨r, ho, hr⟩ := h
  exact ⟨peMono (pe_cmpR ho ha.pe hb.pe hm) fun σ H Q ⟨g, G, ss, s, d, s', R, ef, q⟩ => bin_run R ef hr q⟩
theorem se_un {o : UnaryOp} {op : D → Option D} (h : Op1 X m (unaryOp o) op) (ha : SE X m a fa) : SE X n (.UnaryOp o a pos) (un op fa) := by
  obtain ⟨r, ho, hr⟩ := h
  refine ⟨peMono (pe_un ho ha.pe) fun σ H Q ⟨g, G, ss, s, d, s', R, ef, q⟩ => ?_⟩
  obtain ⟨dx, s1, e1, ef⟩ := bnd_inv ef
  obtain ⟨e3, e4⟩ := lft_inv ef
  subst e4
  refine ⟨g, G, ss, s, dx, s', R, e1, fun x G1 H1 R1 A1 w1 => ?_⟩
  refine hr g G1 H1 s' x dx d Q R1 w1 e3 fun v G' H' R' A' w => ?_
  exact q v G' H' R' (A1.trans R1 A' ⟨_, R'⟩) (.of w n)

theorem dInt {m : Nat} {G H : Hp} {v : V} {i : Int} (k : Same G H) (h : View m G H v (.int i)) : v = .int i := by
  cases h.dat k
  rfl
theorem dBl {m : Nat} {G H : Hp} {v : V} {i : Bool} (k : Same G H) (h : View m G H v (.bool i)) : v = .bl i := by
  cases h.dat k
  rfl
theorem dStr {m : Nat} {G H : Hp} {v : V} {i : Str} (k : Same G H) (h : View m G H v (.str i)) : v = .str i := by
  cases h.dat k
  rfl
/-- two ints -/
theorem op2_I {F : Value → Value → Sem Value} {C : Int → Int → Prop} {gi : Int → Int → V} {gd : Int → Int → D} {op : D → D → Option D} (ho : OpR X F (rI C gi)) (hd : ∀ i j G, Dat G (gi i j) (gd i j)) (hop : ∀ dx dy d, op dx dy = some d → ∃ i j, dx = .int i ∧ dy = .int j ∧ C i j ∧ d = gd i j) : Op2 X m F op := by
  refine ⟨_, ho, fun g G H s x y dx dy d Q R wx wy e q => ?_⟩
  obtain ⟨i, j, rfl, rfl, hc, rfl⟩ := hop _ _ _ e
  exact ⟨i, j, dInt R.gh wx, dInt R.gh wy, hc, q _ G H R (Adv.refl _ _ _) (hd i j G)⟩
theorem op2_I0 {F : Value → Value → Sem Value} {gi : Int → Int → V} {gd : Int → Int → D} {op : D → D → Option D} (ho : OpR X F (rI0 gi)) (hd : ∀ i j G, Dat G (gi i j) (gd i j)) (hop : ∀ dx dy d, op dx dy = some d → ∃ i j, dx = .int i ∧ dy = .int j ∧ d = gd i j) : Op2 X m F op := by
  refine ⟨_, ho, fun g G H s x y dx dy d Q R wx wy e q => ?_⟩
  obtain ⟨i, j, rfl, rfl, rfl⟩ := hop _ _ _ e
  exact ⟨i, j, dInt R.gh wx, dInt R.gh wy, q _ G H R (Adv.refl _ _ _) (hd i j G)⟩
theorem o_sub : Op2 X m (binaryOp .Sub) subD := op2_I0 (gd := fun i j => .int (i - j)) op_sub (fun i j G => .int _) fun dx dy d h => by
  unfold subD at h; split at h
  · cases h; exact ⟨_, _, rfl, rfl, rfl⟩
  · cases h
theorem o_mod : Op2 X m (binaryOp .Mod) modD := op2_I (gd := fun i j => .int (i % j)) op_mod (fun i j G => .int _) fun dx dy d h => by
  unfold modD at h; split at h
  · split at h
    · cases h; exact ⟨_, _, rfl, rfl, by assumption, rfl⟩
    · cases h
  · cases h
theorem o_fdiv : Op2 X m (binaryOp .FloorDiv) fdivD := op2_I (gd := fun i j => .int (i / j)) op_fdiv (fun i j G => .int _) fun dx dy d h => by
  unfold fdivD at h; split at h
  · split at h
    · rename_i z; cases h; exact ⟨_, _, rfl, rfl, ⟨z.1, by omega⟩, rfl⟩
    · cases h
  · cases h
theorem o_fdivN : Op2 X m (binaryOp .FloorDiv) fdivN := op2_I (gd := fun i j => .int (i.fdiv j)) op_fdivN (fun i j G => .int _) fun dx dy d h => by
  unfold fdivN at h; split at h
  · split at h
    · cases h; exact ⟨_, _, rfl, rfl, by assumption, rfl⟩
    · cases h
  · cases h
theorem o_pow : Op2 X m (binaryOp .Pow) powD := op2_I (gd := fun i j => .int (i ^ j.toNat)) op_pow (fun i j G => .int _) fun dx dy d h => by
  unfold powD at h; split at h
  · split at h
    · rename_i z; cases h; exact ⟨_, _, rfl, rfl, ⟨z.1, by omega, z.2.2⟩, rfl⟩
    · cases h
  · cases h
theorem o_shl : Op2 X m (binaryOp .LShift) shlD := op2_I (gd := fun i j => .int (i * 2 ^ j.toNat)) op_shl (fun i j G => .int _) fun dx dy d h => by
  unfold shlD at h; split at h
  · split at h
    · rename_i z; cases h; exact ⟨_, _, rfl, rfl, ⟨z.1, by omega, z.2.2⟩, rfl⟩
    · cases h
  · cases h
theorem o_lt : Op2 X m (compareOp .Lt) ltD := op2_I0 (gd := fun i j => .bool (decide (i < j))) op_lt (fun i j G => .bl _) fun dx dy d h => by
  unfold ltD at h; split at h
  · cases h; exact ⟨_, _, rfl, rfl, rfl⟩
  · cases h
theorem o_le : Op2 X m (compareOp .LtE) leD := op2_I0 (gd := fun i j => .bool (decide (i ≤ j))) op_le (fun i j G => .bl _) fun dx dy d h => by
  unfold leD at h; split at h
  · cases h; exact ⟨_, _, rfl, rfl, rfl⟩
  · cases h
theorem o_gt : Op2 X m (compareOp .Gt) gtD := op2_I0 (gd := fun i j => .bool (decide (j < i))) op_gt (fun i j G => .bl _) fun dx dy d h => by
  unfold gtD at h; split at h
  · cases h; exact ⟨_, _, rfl, rfl, rfl⟩
  · cases h
theorem o_ge : Op2 X m (compareOp .GtE) geD := op2_I0 (gd := fun i j => .bool (decide (j ≤ i))) op_ge (fun i j G => .bl _) fun dx dy d h => by
  unfold geD at h; split at h
  · cases h; exact ⟨_, _, rfl, rfl, rfl⟩
  · cases h
theorem o_neg : Op1 X m (unaryOp .USub) negD := by
  refine ⟨_, un_neg, fun g G H s x dx d Q R wx e q => ?_⟩
  unfold negD at e; split at e
  · cases e; exact ⟨_, dInt R.gh wx, q _ G H R (Adv.refl _ _ _) (.int _)⟩
  · cases e
/-- data of the heap of now, for the library's rules on data -/
def noDict : D → Bool
  | .dict _ => false
  | _ => true
mutual
theorem Dat.dp {K : PySem.W.Frag} {H : Hp} : ∀ {v : V} {d : D}, Dat H v d → PyData.canLay0 d = true → Dp K H v d
  | _, _, .non, _ => .non
  | _, _, .bl b, _ => .bl b
  | _, _, .int i, _ => .int i
  | _, _, .str x, _ => .str x
  | _, _, .tup h _ l, c => .tup (.inl (.inr ⟨_, h⟩)) (DatL.dp l (by simpa [PyData.canLay0] using c))
  | _, _, .lst h l, c => .lst (.inl (.inl h)) (DatL.dp l (by simpa [PyData.canLay0] using c))
  | _, _, .dK h e l, c => by simp [PyData.canLay0] at c
theorem DatL.dp {K : PySem.W.Frag} {H : Hp} : ∀ {vs : List V} {ds : List D}, DatL H vs ds → PyData.canLayAll0 ds = true → DpAll K H vs ds
  | _, _, .nil, _ => .nil
  | _, _, .cons a b, c => by
    have c' := by simpa [PyData.canLayAll0] using c
    exact .cons (Dat.dp a c'.1) (DatL.dp b c'.2)
end
theorem View.dp {K : PySem.W.Frag} {G H : Hp} {sa : List Addr} {v : V} {d : D} (k : Same G (msk sa H)) (h : View m G (msk sa H) v d) (c : SeqAt.shaped d = true) : Dp K H v d :=
  ((h.dat k).mono msk_sub).dp (SeqAt.canLay_of_shaped c)
/-- a tuple against the empty one -/
theorem op_eqT0 (hu : X.A.units + 64 < cLine) : OpR X (compareOp .Eq) (fun x y H Q => ∃ a b xs, x = .ref a ∧ y = .ref b ∧ SqT X.K H a xs ∧ SqT X.K H b [] ∧ Q (.bl xs.isEmpty) H) := by
  intro pins s σ H x y v u Q I rx ry h
  obtain ⟨a, b, xs, rfl, rfl, h1, h2, q⟩ := h
  cases rx; cases ry
  obtain ⟨its, rv, t, z⟩ := I.tuple h1
  obtain ⟨its2, rv2, t2, z2⟩ := I.tuple h2
  cases rv2
  refine SeqAt.eq_tupleAt (e := fun _ => true) t t2 (by omega) (fun j h1 h2 => absurd h2 (by simp)) ⟨.bl xs.isEmpty, H, I, ?_, q⟩
  show _ = _
  cases rv <;> simp
theorem o_eqR {F : Value → Value → Sem Value} {k : Bool → Bool} {op : D → D → Option D} (h1 : OpR X F (fun x y H Q => ∃ d e, Dp X.K H x d ∧ Dp X.K H y e ∧ SeqAt.shaped d = true ∧ SeqAt.shaped e = true ∧ Q (.bl (k (PyData.eqv d e))) H))
    (h2 : OpR X F (fun x y H Q => ∃ a b xs, x = .ref a ∧ y = .ref b ∧ SqT X.K H a xs ∧ SqT X.K H b [] ∧ Q (.bl (k xs.isEmpty)) H)) (hop : ∀ x y, op x y = (eqD x y).bind fun d => match d with | .bool b => some (.bool (k b)) | _ => none) : Op2 X m F op := by
  refine ⟨_, h1.or h2, fun g G H s x y dx dy d Q R wx wy e q => ?_⟩
  rw [hop] at e
  unfold eqD at e
  split at e
  · rename_i c
    rw [Bool.and_eq_true] at c
    cases e
    exact .inl ⟨dx, dy, wx.dp R.gh c.1, wy.dp R.gh c.2, c.1, c.2, q _ G H R (Adv.refl _ _ _) (.bl _)⟩
  · split at e
    · rename_i xs _
      cases e
      have w1 := (wx.dat R.gh).mono msk_sub
      have w2 := (wy.dat R.gh).mono msk_sub
      cases w1 with
      | tup h n l =>
        rename_i a o vs
        cases w2 with
        | tup h' n' l' =>
          cases l'
          refine .inr ⟨_, _, vs, rfl, rfl, .inl (.inr ⟨_, h⟩), .inl (.inr ⟨_, h'⟩), q _ G H R (Adv.refl _ _ _) ?_⟩
          have : vs.isEmpty = xs.isEmpty := by cases l <;> rfl
          rw [this]
          exact .bl _
    · cases e
theorem o_eq (hu : X.A.units + 64 < cLine) : Op2 X m (compareOp .Eq) eqD := o_eqR (k := id) (op_eqD hu) (op_eqT0 hu) fun x y => by
  unfold eqD
  split
  · rfl
  · split <;> rfl
theorem o_ne (hu : X.A.units + 64 < cLine) : Op2 X m (compareOp .NotEq) neD := by
  refine ⟨_, op_neD hu, fun g G H s x y dx dy d Q R wx wy e q => ?_⟩
  unfold neD at e
  split at e
  · rename_i c
    rw [Bool.and_eq_true] at c
    cases e
    exact ⟨dx, dy, wx.dp R.gh c.1, wy.dp R.gh c.2, c.1, c.2, q _ G H R (Adv.refl _ _ _) (.bl _)⟩
  · cases e
end
end Ev
end

section
set_option linter.all false
set_option maxRecDepth 100000
/-! Rules: tests, displays, tuples and lists made. -/
namespace Ev
open PySem PyProof.Rows L2

section
variable {X : Cx} {n m : Nat} {e a b c : Expr} {f fa fb fc : EvE} {ta tb : EvT} {pos : Pos} {es : List Expr} {fl : EvL}

/-! ### tests -/
theorem st_val (h : SE X m e f) (he : ∀ whole, isTrue e X.env whole = (do let v ← whole; standAt e.pos; holding [v] (truthy v)) := by intro _; rfl) : ST X e (tst f) := ⟨ptMono (pt_val h.pe he) fun σ H Q ⟨g, G, ss, s, k, s', R, ef, q⟩ => by
  obtain ⟨dx, s1, e1, ef⟩ := bnd_inv ef
  refine ⟨g, G, ss, s, dx, s1, R, e1, fun x G1 H1 R1 A1 w1 => ?_⟩
  cases dx <;> try (cases ef; done)
  obtain ⟨e2, e3⟩ := ret_inv ef
  subst e2; subst e3
  exact ⟨k, dBl R1.gh w1, q G1 H1 R1 A1⟩⟩
/-- a comparison as a test -/
theorem st_cmp {o : CmpOp} {op : D → D → Option D} (h : Op2 X m (compareOp o) op) (ha : SE X m a fa) (hb : SE X m b fb) (hm : behindInMarks o b = false) : ST X (.Compare a [o] [b] pos) (tst (bin op fa fb)) := by
  obtain ⟨r, ho, hr⟩ := h
  refine ⟨ptMono (pt_cmpR ho ha.pe hb.pe hm) fun σ H Q ⟨g, G, ss, s, k, s', R, ef, q⟩ => ?_⟩
  obtain ⟨d, s1, e1, ef⟩ := bnd_inv ef
  cases d <;> try (cases ef; done)
  obtain ⟨e2, e3⟩ := ret_inv ef
  subst e2; subst e3
  exact bin_run (n := 0) R e1 hr fun v G' H' R' A' w => ⟨k, dBl R'.gh w, q G' H' R' A'⟩
theorem st_tru (h : SE X m e f) (he : ∀ whole, isTrue e X.env whole = (do let v ← whole; standAt e.pos; holding [v] (truthy v)) := by intro _; rfl) : ST X e (tru f) := ⟨ptMono (pt_truth h.pe he) fun σ H Q ⟨g, G, ss, s, k, s', R, ef, q⟩ => by
  obtain ⟨dx, s1, e1, ef⟩ := bnd_inv ef
  obtain ⟨e2, e3⟩ := lft_inv ef
  subst e3
  refine ⟨g, G, ss, s, dx, s', R, e1, fun x G1 H1 R1 A1 w1 => ⟨k, ?_, q G1 H1 R1 A1⟩⟩
  have w := (w1.dat R1.gh).mono msk_sub
  cases w with
  | non => cases e2; rfl
  | bl b => cases e2; rfl
  | int i => cases e2; rfl
  | str x => cases e2
  | tup h n l =>
    cases e2
    refine .inr (.inl ⟨_, .inl (.inr ⟨_, h⟩), ?_⟩)
    cases l <;> rfl
  | lst h l =>
    cases e2
    refine .inl ⟨_, .inl (.inl h), ?_⟩
    cases l <;> rfl
  | dK h e l => cases e2⟩
theorem st_and1 (ha : ST X a ta) : PW X (.BoolOp .And [a] pos) (tT ta) := pw_and1 ha.pt
theorem st_or1 (ha : ST X a ta) : PW X (.BoolOp .Or [a] pos) (tT ta) := pw_or1 ha.pt
theorem pwMono {e : Expr} {t t' : TT} (h : PW X e t) (k : ∀ σ H Q, t' σ H Q → t σ H Q) : PW X e t' := ⟨fun wh pins s σ H Q I q => h.run wh pins s σ H Q I (k σ H Q q)⟩
theorem st_and {rest : List Expr} (ha : ST X a ta) (hb : PW X (.BoolOp .And (b :: rest) pos) (tT tb)) : PW X (.BoolOp .And (a :: b :: rest) pos) (tT (andT ta tb)) := pwMono (pw_and ha.pt hb) fun σ H Q ⟨g, G, ss, s, k, s', R, ef, q⟩ => by
  obtain ⟨c, s1, e1, ef⟩ := bnd_inv ef
  refine ⟨g, G, ss, s, c, s1, R, e1, fun G1 H1 R1 A1 => ?_⟩
  cases c with
  | true => exact ⟨g, G1, ss, s1, k, s', R.ext A1 R1, ef, fun G2 H2 R2 A2 => q G2 H2 R2 (A1.trans R1 A2 ⟨_, R2⟩)⟩
  | false =>
    obtain ⟨e2, e3⟩ := ret_inv ef
    subst e2; subst e3
    exact q G1 H1 R1 A1
theorem st_or {rest : List Expr} (ha : ST X a ta) (hb : PW X (.BoolOp .Or (b :: rest) pos) (tT tb)) : PW X (.BoolOp .Or (a :: b :: rest) pos) (tT (orT ta tb)) := pwMono (pw_or ha.pt hb) fun σ H Q ⟨g, G, ss, s, k, s', R, ef, q⟩ => by
  obtain ⟨c, s1, e1, ef⟩ := bnd_inv ef
  refine ⟨g, G, ss, s, c, s1, R, e1, fun G1 H1 R1 A1 => ?_⟩
  cases c with
  | false => exact ⟨g, G1, ss, s1, k, s', R.ext A1 R1, ef, fun G2 H2 R2 A2 => q G2 H2 R2 (A1.trans R1 A2 ⟨_, R2⟩)⟩
  | true =>
    obtain ⟨e2, e3⟩ := ret_inv ef
    subst e2; subst e3
    exact q G1 H1 R1 A1
theorem st_pw (h : PW X e (tT ta)) : ST X e ta := ⟨h.pt⟩
theorem st_not (ha : ST X a ta) : ST X (.UnaryOp .Not a pos) (notT ta) := ⟨ptMono (pt_not ha.pt) fun σ H Q ⟨g, G, ss, s, k, s', R, ef, q⟩ => by
  obtain ⟨c, s1, e1, ef⟩ := bnd_inv ef
  obtain ⟨e2, e3⟩ := ret_inv ef
  subst e2; subst e3
  exact ⟨g, G, ss, s, c, s', R, e1, fun G1 H1 R1 A1 => q G1 H1 R1 A1⟩⟩
/-! .. as values -/
theorem se_one {o : BoolOp} (h : SE X n a fa) : SE X n (.BoolOp o [a] pos) fa := ⟨pe_one h.pe⟩
theorem se_and {rest : List Expr} (ha : SE X m a fa) (hb : SE X n (.BoolOp .And (b :: rest) pos) fb) : SE X n (.BoolOp .And (a :: b :: rest) pos) (andV fa fb) := ⟨peMono (pe_and ha.pe hb.pe) fun σ H Q ⟨g, G, ss, s, k, s', R, ef, q⟩ => by
  obtain ⟨c, s1, e1, ef⟩ := bnd_inv ef
  refine ⟨g, G, ss, s, c, s1, R, e1, fun x G1 H1 R1 A1 w1 => ?_⟩
  cases c <;> try (cases ef; done)
  rename_i c
  refine ⟨c, dBl R1.gh w1, ?_⟩
  cases c with
  | true => exact ⟨g, G1, ss, s1, k, s', R.ext A1 R1, ef, fun v G2 H2 R2 A2 w => q v G2 H2 R2 (A1.trans R1 A2 ⟨_, R2⟩) w⟩
  | false =>
    obtain ⟨e2, e3⟩ := ret_inv ef
    subst e2; subst e3
    exact q _ G1 H1 R1 A1 (.of (.bl false) n)⟩
theorem se_or {rest : List Expr} (ha : SE X m a fa) (hb : SE X n (.BoolOp .Or (b :: rest) pos) fb) : SE X n (.BoolOp .Or (a :: b :: rest) pos) (orV fa fb) := ⟨peMono (pe_or ha.pe hb.pe) fun σ H Q ⟨g, G, ss, s, k, s', R, ef, q⟩ => by
  obtain ⟨c, s1, e1, ef⟩ := bnd_inv ef
  refine ⟨g, G, ss, s, c, s1, R, e1, fun x G1 H1 R1 A1 w1 => ?_⟩
  cases c <;> try (cases ef; done)
  rename_i c
  refine ⟨c, dBl R1.gh w1, ?_⟩
  cases c with
  | false => exact ⟨g, G1, ss, s1, k, s', R.ext A1 R1, ef, fun v G2 H2 R2 A2 w => q v G2 H2 R2 (A1.trans R1 A2 ⟨_, R2⟩) w⟩
  | true =>
    obtain ⟨e2, e3⟩ := ret_inv ef
    subst e2; subst e3
    exact q _ G1 H1 R1 A1 (.of (.bl true) n)⟩
theorem se_not (ha : SE X m a fa) : SE X n (.UnaryOp .Not a pos) (notV fa) := ⟨peMono (pe_not ha.pe) fun σ H Q ⟨g, G, ss, s, k, s', R, ef, q⟩ => by
  obtain ⟨c, s1, e1, ef⟩ := bnd_inv ef
  refine ⟨g, G, ss, s, c, s1, R, e1, fun x G1 H1 R1 A1 w1 => ?_⟩
  cases c <;> try (cases ef; done)
  rename_i c
  obtain ⟨e2, e3⟩ := ret_inv ef
  subst e2; subst e3
  exact ⟨c, dBl R1.gh w1, q _ G1 H1 R1 A1 (.of (.bl _) n)⟩⟩
theorem se_if {tc : EvT} (hc : ST X c tc) (ha : SE X n a fa) (hb : SE X n b fb) : SE X n (.IfExp c a b pos) (iteE tc fa fb) := ⟨peMono (pe_ifExp hc.pt ha.pe hb.pe) fun σ H Q ⟨g, G, ss, s, k, s', R, ef, q⟩ => by
  obtain ⟨c, s1, e1, ef⟩ := bnd_inv ef
  refine ⟨g, G, ss, s, c, s1, R, e1, fun G1 H1 R1 A1 => ?_⟩
  have fin : ∀ {h : EvE}, h ss s1 = some (k, s') → tE n h σ H1 Q := fun eh => ⟨g, G1, ss, s1, k, s', R.ext A1 R1, eh, fun v G2 H2 R2 A2 w => q v G2 H2 R2 (A1.trans R1 A2 ⟨_, R2⟩) w⟩
  cases c with
  | true => exact iteT (fin ef)
  | false => exact iteF (fin ef)⟩
theorem chn_run {o o' : D → D → Option D} {g : Gh} {G H : Hp} {σ : L2.St} {ss : Slots} {s s' : Src} {d : D} {Q : VK} {r r' : R2} (R : Rel g G H σ ss s) (ef : chn o o' fa fb fc ss s = some (d, s'))
    (hr : ∀ (g : Gh) (G H : Hp) (s : Src) (x y : V) (dx dy d : D) (Q : VK), RelE g G H s → View m G (msk g.sa H) x dx → View m G (msk g.sa H) y dy → o dx dy = some d → (∀ v G' H', RelE g G' H' s → Adv g.sa G H G' H' → Dat G' v d → Q v H') → r x y H Q)
    (hr' : ∀ (g : Gh) (G H : Hp) (s : Src) (x y : V) (dx dy d : D) (Q : VK), RelE g G H s → View m G (msk g.sa H) x dx → View m G (msk g.sa H) y dy → o' dx dy = some d → (∀ v G' H', RelE g G' H' s → Adv g.sa G H G' H' → Dat G' v d → Q v H') → r' x y H Q)
    (q : ∀ v G' H', RelE g G' H' s' → Adv g.sa G H G' H' → View n G' (msk g.sa H') v d → Q v H') : tE m fa σ H fun x H1 => tE m fb σ H1 fun y H2 => r x y H2 fun z H3 => ∃ k, z = .bl k ∧ (if k = true then tE m fc σ H3 fun w' H4 => r' y w' H4 Q else Q (.bl false) H3) := by
  obtain ⟨dx, s1, e1, ef⟩ := bnd_inv ef
  obtain ⟨dy, s2, e2, ef⟩ := bnd_inv ef
  obtain ⟨dz, s3, e3, ef⟩ := bnd_inv ef
  obtain ⟨e3', e4⟩ := lft_inv e3
  subst e4
  refine ⟨g, G, ss, s, dx, s1, R, e1, fun x G1 H1 R1 A1 w1 => ?_⟩
  refine ⟨g, G1, ss, s1, dy, s3, R.ext A1 R1, e2, fun y G2 H2 R2 A2 w2 => ?_⟩
  clear e3
  refine hr g G2 H2 s3 x y dx dy dz _ R2 (w1.mono A2.g A2.h) w2 e3' fun v G3 H3 R3 A3 w3 => ?_
  have A13 := (A1.trans R1 A2 ⟨_, R2⟩).trans R2 A3 ⟨_, R3⟩
  obtain ⟨k, rfl⟩ : ∃ k, dz = .bool k := by
    cases dz with
    | bool k => exact ⟨k, rfl⟩
    | _ => cases ef
  refine ⟨k, dBl (m := 0) R3.gh w3, ?_⟩
  cases k with
  | false =>
    obtain ⟨e5, e6⟩ := ret_inv ef
    subst e5; subst e6
    exact iteF (q _ G3 H3 R3 A13 (.of (.bl false) n))
  | true =>
    refine iteT ?_
    obtain ⟨du, s4, e5, ef⟩ := bnd_inv ef
    obtain ⟨e6, e7⟩ := lft_inv ef
    subst e7
    refine ⟨g, G3, ss, s3, du, s', R.ext A13 R3, e5, fun u G4 H4 R4 A4 w4 => ?_⟩
    refine hr' g G4 H4 s' y u dy du d Q R4 ((w2.mono A3.g A3.h).mono A4.g A4.h) w4 e6 fun v G5 H5 R5 A5 w5 => ?_
    exact q v G5 H5 R5 ((A13.trans R3 A4 ⟨_, R4⟩).trans R4 A5 ⟨_, R5⟩) (.of w5 n)
theorem se_chn {o o' : CmpOp} {op op' : D → D → Option D} (h : Op2 X m (compareOp o) op) (h' : Op2 X m (compareOp o') op') (ha : SE X m a fa) (hb : SE X m b fb) (hc : SE X m c fc) (hm : lastMarks [o, o'] [b, c] = false := by rfl) : SE X n (.Compare a [o, o'] [b, c] pos) (chn op op' fa fb fc) := by
  obtain ⟨r, ho, hr⟩ := h
  obtain ⟨r', ho', hr'⟩ := h'
  exact ⟨peMono (pe_chain ho ho' ha.pe hb.pe hc.pe hm) fun σ H Q ⟨g, G, ss, s, d, s', R, ef, q⟩ => chn_run R ef hr hr' q⟩
theorem st_chn {o o' : CmpOp} {op op' : D → D → Option D} (h : Op2 X m (compareOp o) op) (h' : Op2 X m (compareOp o') op') (ha : SE X m a fa) (hb : SE X m b fb) (hc : SE X m c fc) (hm : lastMarks [o, o'] [b, c] = false := by rfl) : ST X (.Compare a [o, o'] [b, c] pos) (tst (chn op op' fa fb fc)) := by
  obtain ⟨r, ho, hr⟩ := h
  obtain ⟨r', ho', hr'⟩ := h'
  refine ⟨ptMono (pt_chain ho ho' ha.pe hb.pe hc.pe hm) fun σ H Q ⟨g, G, ss, s, k, s', R, ef, q⟩ => ?_⟩
  obtain ⟨d, s1, e1, ef⟩ := bnd_inv ef
  cases d <;> try (cases ef; done)
  obtain ⟨e2, e3⟩ := ret_inv ef
  subst e2; subst e3
  exact chn_run (n := 0) R e1 hr hr' fun v G' H' R' A' w => ⟨k, dBl R'.gh w, q G' H' R' A'⟩

/-! ### new tuples, known to the object -/
theorem RelE.laidG {g : Gh} {G H : Hp} {s : Src} {p : Addr} {o : HO} (r : RelE g G H s) (hp : H p = none) : RelE g (upd G p o) (upd H p o) s ∧ Adv g.sa G H (upd G p o) (upd H p o) := by
  obtain ⟨r1, a1⟩ := r.laid (o := o) hp
  have gp : G p = none := by
    cases q : G p with
    | none => rfl
    | some u =>
      have := (msk_some (r.gh p u q)).2
      rw [hp] at this; cases this
  have np : p ∉ g.sa := fun z => r.src.there p z hp
  have sg : Same G (upd G p o) := fun a u h => by
    rw [upd_ne (fun z => by rw [z, gp] at h; cases h)]
    exact h
  refine ⟨⟨fun a u h => ?_, r1.bh, fun a u h => sg a u (r.g0 a u h), fun a h => ?_, r1.old, r1.src⟩, sg, a1.h, fun a h => ?_⟩
  · by_cases e : a = p
    · subst e
      rw [upd_same] at h
      rw [msk_out np, upd_same]
      exact h
    · rw [upd_ne e] at h
      exact r1.gh a u h
  · by_cases e : a = p
    · subst e
      exact .inr fun z => r.old a z hp
    · rw [upd_ne e] at h
      exact r.new a h
  · by_cases e : a = p
    · subst e; exact .inr hp
    · rw [upd_ne e] at h; exact .inl h
/-- the tuple of the values us, laid at the heap's end -/
def tupO (us : List Value) : Obj := { cls := .type "tuple", data := .seq us.toArray }
theorem invTup {pins : List (Addr × Obj)} {σ : L2.St} {H : Hp} {s : Shared} {xs : List V} {us : List Value} (I : Inv X pins σ H s) (r : Vals xs us) (z : xs.length ≤ sizeLine) (t : Nat) :
    Inv X pins σ (upd H s.heap.objs.size (.frz (tupO us) (.tup xs))) { s with heap := s.heap.push (tupO us), toks := t } :=
  I.laid (t' := t) (fun b u e => Heap.get?_push_of_some _ e) (Nat.le_refl _) ⟨Heap.get?_push_size _ rfl, z, us, r, ⟨_, Heap.get?_push_size _ rfl, rfl, _, rfl⟩⟩
/-- what a new tuple's reading gives -/
def NewT (H : Hp) (xs : List V) (Q : VK) : Prop := ∀ p o, H p = none → o.dict = none → Q (.ref p) (upd H p (.frz o (.tup xs)))
theorem newT_fin {g : Gh} {G H : Hp} {s : Src} {vs : List V} {ds : List D} {Q : VK} (R : RelE g G H s) (l : DatL G vs ds) (q : ∀ v G' H', RelE g G' H' s → Adv g.sa G H G' H' → Dat G' v (.tuple ds) → Q v H') : NewT H vs Q := fun p o hp ho => by
  obtain ⟨R1, A1⟩ := R.laidG (o := .frz o (.tup vs)) hp
  exact q _ _ _ R1 A1 (.tup upd_same ho (l.mono A1.g))
theorem pe_tupF {x1 : Nat} {t : TA} (h : PA X es t) : PE X (.Tuple es x1 pos) (fun σ H Q => t σ H fun xs H1 => xs.length ≤ sizeLine ∧ NewT H1 xs Q) := by
  refine ⟨fun pins s σ H Q I hq => ?_⟩
  refine wpAny_Tuple_spliced (thn (h.run pos pins s σ H _ I hq) fun us s1 ⟨xs, H1, I1, r, z, q⟩ => ⟨by rw [← r.length]; exact z, ?_⟩)
  exact ⟨.ref s1.heap.objs.size, _, invTup I1 r z s1.toks, rfl, q _ (tupO us) (I1.hok.fresh (Nat.le_refl _)) rfl⟩
theorem sl_nil : SL X [] nilA := ⟨paMono pa_nil fun σ H Q ⟨g, G, ss, s, ds, s', R, ef, q⟩ => by
  obtain ⟨e1, e2⟩ := ret_inv ef
  subst e1; subst e2
  exact q [] G H R.e (Adv.refl _ _ _) .nil⟩
theorem sl_cons (ha : SE X 0 e f) (hr : SL X es fl) (hs : starEach (e :: es) X.env = (false, eval e X.env) :: starEach es X.env := by rfl) : SL X (e :: es) (consA f fl) := ⟨paMono (pa_cons ha.pe hr.pa hs) fun σ H Q ⟨g, G, ss, s, ds, s', R, ef, q⟩ => by
  obtain ⟨dx, s1, e1, ef⟩ := bnd_inv ef
  obtain ⟨dy, s2, e2, ef⟩ := bnd_inv ef
  obtain ⟨e3, e4⟩ := ret_inv ef
  subst e3; subst e4
  refine ⟨g, G, ss, s, dx, s1, R, e1, fun x G1 H1 R1 A1 w1 => ?_⟩
  refine ⟨g, G1, ss, s1, dy, s', R.ext A1 R1, e2, fun y G2 H2 R2 A2 w2 => ?_⟩
  exact q _ G2 H2 R2 (A1.trans R1 A2 ⟨_, R2⟩) (.cons (Dat.mono A2.g w1) w2)⟩
/-- *e: all items of a list or tuple -/
def starE (f : EvE) : EvL := fun ss => bnd (f ss) fun x => lft (items x)
theorem View.items {G H : Hp} {v : V} {d : D} {ds : List D} (k : Same G H) (h : View 1 G H v d) (e : items d = some ds) : ∃ p vs, v = .ref p ∧ DatL G vs ds ∧ ((∃ o, G p = some (.frz o (.tup vs)) ∧ d = .tuple ds) ∨ (H p = some (.lst vs) ∧ d = .list ds)) := by
  cases d <;> try (cases e; done)
  · cases e
    obtain ⟨p, vs, e1, h1, f⟩ := View.list k h
    exact ⟨p, vs, e1, f.dat, .inr ⟨h1, rfl⟩⟩
  · cases e
    have w := View.tuple h
    cases w with
    | tup h1 n l => exact ⟨_, _, rfl, l, .inl ⟨_, h1, rfl⟩⟩
theorem sl_star {p : Pos} (ha : SE X 1 e f) (hr : SL X es fl) (hs : starEach (.Starred e p :: es) X.env = (true, eval e X.env) :: starEach es X.env := by rfl) : SL X (.Starred e p :: es) (starA (starE f) fl) := ⟨paMono (StX.pa_star ha.pe hr.pa hs) fun σ H Q ⟨g, G, ss, s, ds, s', R, ef, q⟩ => by
  obtain ⟨dx, s1, e1, ef⟩ := bnd_inv ef
  obtain ⟨dy, s2, e2, ef⟩ := bnd_inv ef
  obtain ⟨e3, e4⟩ := ret_inv ef
  subst e3; subst e4
  obtain ⟨d0, s0, e0, e1⟩ := bnd_inv e1
  obtain ⟨e5, e6⟩ := lft_inv e1
  subst e6
  refine ⟨g, G, ss, s, d0, s1, R, e0, fun x G1 H1 R1 A1 w1 => ?_⟩
  obtain ⟨p, vs, rfl, l, h⟩ := w1.items R1.gh e5
  refine ⟨p, vs, rfl, ?_, g, G1, ss, s1, dy, s', R.ext A1 R1, e2, fun y G2 H2 R2 A2 w2 => ?_⟩
  · rcases h with ⟨o, h, _⟩ | ⟨h, _⟩
    · exact .inl (.inl (.inr ⟨o, (msk_some (R1.gh _ _ h)).2⟩))
    · exact .inr (.inl (.inl (msk_some h).2))
  · exact q _ G2 H2 R2 (A1.trans R1 A2 ⟨_, R2⟩) ((l.mono A2.g).app w2)⟩
theorem se_tup {x1 : Nat} (h : SL X es fl) : SE X n (.Tuple es x1 pos) (tupE fl) := ⟨peMono (pe_tupF h.pa) fun σ H Q ⟨g, G, ss, s, d, s', R, ef, q⟩ => by
  obtain ⟨ds, s1, e1, ef⟩ := bnd_inv ef
  split at ef
  · rename_i z
    obtain ⟨e2, e3⟩ := ret_inv ef
    subst e2; subst e3
    refine ⟨g, G, ss, s, ds, s', R, e1, fun vs G1 H1 R1 A1 l => ⟨by rw [l.length, ← lim_eq]; exact z, newT_fin R1 l fun v G' H' R' A' w => ?_⟩⟩
    exact q v G' H' R' (A1.trans R1 A' ⟨_, R'⟩) (.of w n)
  · cases ef⟩
/-- what a new list's reading gives -/
def NewL (H : Hp) (xs : List V) (Q : VK) : Prop := ∀ p, H p = none → Q (.ref p) (upd H p (.lst xs))
theorem newL_fin {g : Gh} {G H : Hp} {s : Src} {vs : List V} {ds : List D} {Q : VK} (R : RelE g G H s) (l : DatL G vs ds)
    (q : ∀ v G' H' F, RelE g G' H' s → Adv g.sa G H G' H' → Own 1 G' H' v (.list ds) F → Fresh g.sa H G' F → Q v H') : NewL H vs Q := fun p hp => by
  obtain ⟨R1, A1⟩ := R.laid (o := .lst vs) hp
  have gp : G p = none := by
    cases z : G p with
    | none => rfl
    | some u =>
      have := (msk_some (R.gh p u z)).2
      rw [hp] at this; cases this
  exact q _ _ _ [p] R1 A1 (.inl ⟨p, vs, ds, [], rfl, rfl, upd_same, OwnL.of_dat l, rfl⟩) ⟨by simp, fun x hx => by
    obtain rfl := List.mem_singleton.mp hx
    exact ⟨hp, gp⟩⟩
theorem Fresh.back {g : Gh} {G H G1 H1 G' : Hp} {s : Src} {F : List Addr} (A : Adv g.sa G H G1 H1) (R1 : RelE g G1 H1 s) (hsa : ∀ x ∈ g.sa, H x ≠ none) (f : Fresh g.sa H1 G' F) : Fresh g.sa H G' F := ⟨f.nd, fun p hp => by
  obtain ⟨h1, h2⟩ := f.new p hp
  refine ⟨?_, h2⟩
  cases q : H p with
  | none => rfl
  | some o =>
    by_cases hx : p ∈ g.sa
    · exact absurd h1 (R1.src.there p hx)
    · have := A.h p o (by rw [msk_out hx]; exact q)
      rw [msk_out hx, h1] at this
      cases this⟩
theorem sf_lst (h : SL X es fl) : SF X 1 (.List es pos) (lstE fl) := ⟨peMono (pe_lst h.pa) fun σ H Q ⟨g, G, ss, s, d, s', R, ef, q⟩ => by
  obtain ⟨ds, s1, e1, ef⟩ := bnd_inv ef
  split at ef
  · rename_i z
    obtain ⟨e2, e3⟩ := ret_inv ef
    subst e2; subst e3
    refine ⟨g, G, ss, s, ds, s', R, e1, fun vs G1 H1 R1 A1 l => ⟨by rw [l.length, ← lim_eq]; exact z, newL_fin R1 l fun v G' H' F R' A' w fr => ?_⟩⟩
    exact q v G' H' F R' (A1.trans R1 A' ⟨_, R'⟩) w (fr.back A1 R1 R.e.src.there)
  · cases ef⟩
end
end Ev
end

section
set_option linter.all false
set_option maxRecDepth 100000
/-! Rules: +, *, subscripts, slices. -/
namespace Ev
open PySem PyProof.Rows L2

section
variable {X : Cx} {n m : Nat} {e a b c : Expr} {f fa fb fc : EvE} {pos : Pos}

theorem newL_dat {g : Gh} {G H : Hp} {s : Src} {vs : List V} {ds : List D} {Q : VK} (R : RelE g G H s) (l : DatL G vs ds) (q : ∀ v G' H', RelE g G' H' s → Adv g.sa G H G' H' → Dat G' v (.list ds) → Q v H') : NewL H vs Q := fun p hp => by
  obtain ⟨R1, A1⟩ := R.laidG (o := .lst vs) hp
  exact q _ _ _ R1 A1 (.lst upd_same (l.mono A1.g))

/-! ### + -/
def rCatF (K : PySem.W.Frag) : R2 := fun x y H Q => ∃ a b xs ys, x = .ref a ∧ y = .ref b ∧ SqT K H a xs ∧ SqT K H b ys ∧ xs.length + ys.length ≤ sizeLine ∧
  (xs = [] → Q (.ref b) H) ∧ (xs ≠ [] → ys = [] → Q (.ref a) H) ∧ NewT H (xs ++ ys) Q
theorem op_catF : OpR X (binaryOp .Add) (rCatF X.K) := by
  intro pins s σ H x y v u Q I rx ry h
  obtain ⟨a, b, xs, ys, rfl, rfl, ha, hb, hz, q0, q1, q2⟩ := h
  cases rx; cases ry
  obtain ⟨its, r1, p1, _⟩ := I.tuple ha
  obtain ⟨its2, r2, p2, _⟩ := I.tuple hb
  by_cases hx : its = []
  · have hx' := r1.nil_iff.mp hx
    subst hx
    exact cat_tup0 p1 p2 ⟨.ref b, H, I, rfl, q0 hx'⟩
  · refine HT.cat_tup p1 p2 hx (fun z => ⟨.ref a, H, I, rfl, q1 (fun w => hx (r1.nil_iff.mpr w)) (r2.nil_iff.mp z)⟩) (fun z => ?_) (by rw [← r1.length, ← r2.length]; exact hz)
    exact ⟨.ref s.heap.objs.size, _, invTup I (r1.append r2) (by rw [List.length_append]; exact hz) s.toks, rfl, q2 _ (tupO (its ++ its2)) (I.hok.fresh (Nat.le_refl _)) rfl⟩
def rCatL (K : PySem.W.Frag) : R2 := fun x y H Q => ∃ l b xs zs, x = .ref l ∧ y = .ref b ∧ H l = some (.lst xs) ∧ H b = some (.lst zs) ∧ xs.length + zs.length ≤ sizeLine ∧ NewL H (xs ++ zs) Q
theorem op_catL : OpR X (binaryOp .Add) (rCatL X.K) := fun pins s σ H x y v u Q I rx ry h => op_cat pins s σ H x y v u Q I rx ry h
theorem o_add : Op2 X 1 (binaryOp .Add) addD := by
  refine ⟨_, (op_add.or op_catF).or op_catL, fun g G H s x y dx dy d Q R wx wy e q => ?_⟩
  unfold addD at e
  split at e
  · cases e
    exact .inl (.inl ⟨_, _, dInt R.gh wx, dInt R.gh wy, q _ G H R (Adv.refl _ _ _) (.int _)⟩)
  · split at e
    · rename_i xs ys z
      cases e
      obtain ⟨p, vs, rfl, h1, f1⟩ := View.list R.gh wx
      obtain ⟨p2, vs2, rfl, h2, f2⟩ := View.list R.gh wy
      refine .inr ⟨p, p2, vs, vs2, rfl, rfl, (msk_some h1).2, (msk_some h2).2, ?_, newL_dat R (f1.dat.app f2.dat) q⟩
      rw [f1.length, f2.length, ← lim_eq]; exact z
    · cases e
  · split at e
    · rename_i xs ys z
      cases e
      have w1 := View.tuple wx
      have w2 := View.tuple wy
      cases id w1 with
      | tup h1 n1 l1 =>
        rename_i a1 o1 vs1
        cases id w2 with
        | tup h2 n2 l2 =>
          rename_i a2 o2 vs2
          refine .inl (.inr ⟨_, _, vs1, vs2, rfl, rfl, .inl (.inr ⟨_, (msk_some (R.gh _ _ h1)).2⟩), .inl (.inr ⟨_, (msk_some (R.gh _ _ h2)).2⟩), by rw [l1.length, l2.length, ← lim_eq]; exact z, fun e0 => ?_, fun _ e0 => ?_, newT_fin R (l1.app l2) q⟩)
          · subst e0
            cases l1
            exact q _ G H R (Adv.refl _ _ _) w2
          · subst e0
            cases l2
            rw [List.append_nil] at q
            exact q _ G H R (Adv.refl _ _ _) w1
    · cases e
  · cases e
/-- a + b, two lists: a new one -/
def catD : D → D → Option D
  | .list a, .list b => if a.length + b.length ≤ lim then some (.list (a ++ b)) else none
  | _, _ => none
theorem bin_runF {op : D → D → Option D} {g : Gh} {G H : Hp} {σ : L2.St} {ss : Slots} {s s' : Src} {d : D} {Q : VK} {r : R2} (R : Rel g G H σ ss s) (ef : bin op fa fb ss s = some (d, s'))
    (hr : ∀ (g : Gh) (G H : Hp) (s : Src) (x y : V) (dx dy d : D) (Q : VK), RelE g G H s → View m G (msk g.sa H) x dx → View m G (msk g.sa H) y dy → op dx dy = some d → (∀ v G' H' F, RelE g G' H' s → Adv g.sa G H G' H' → Own 1 G' H' v d F → Fresh g.sa H G' F → Q v H') → r x y H Q)
    (q : ∀ v G' H' F, RelE g G' H' s' → Adv g.sa G H G' H' → Own 1 G' H' v d F → Fresh g.sa H G' F → Q v H') : tE m fa σ H fun x H1 => tE m fb σ H1 fun y H2 => r x y H2 Q := by
  obtain ⟨dx, s1, e1, ef⟩ := bnd_inv ef
  obtain ⟨dy, s2, e2, ef⟩ := bnd_inv ef
  obtain ⟨e3, e4⟩ := lft_inv ef
  subst e4
  refine ⟨g, G, ss, s, dx, s1, R, e1, fun x G1 H1 R1 A1 w1 => ?_⟩
  refine ⟨g, G1, ss, s1, dy, s', R.ext A1 R1, e2, fun y G2 H2 R2 A2 w2 => ?_⟩
  have A12 := A1.trans R1 A2 ⟨_, R2⟩
  refine hr g G2 H2 s' x y dx dy d Q R2 (w1.mono A2.g A2.h) w2 e3 fun v G' H' F R' A' w fr => ?_
  exact q v G' H' F R' (A12.trans R2 A' ⟨_, R'⟩) w (fr.back A12 R2 R.e.src.there)
theorem sf_cat (ha : SE X 1 a fa) (hb : SE X 1 b fb) : SF X 1 (.BinOp a .Add b pos) (bin catD fa fb) := ⟨peMono (pe_op op_catL ha.pe hb.pe) fun σ H Q ⟨g, G, ss, s, d, s', R, ef, q⟩ => bin_runF R ef (fun g G H s x y dx dy d Q R wx wy e q => by
  unfold catD at e
  split at e
  · split at e
    · rename_i xs ys z
      cases e
      obtain ⟨p, vs, rfl, h1, f1⟩ := View.list R.gh wx
      obtain ⟨p2, vs2, rfl, h2, f2⟩ := View.list R.gh wy
      refine ⟨p, p2, vs, vs2, rfl, rfl, (msk_some h1).2, (msk_some h2).2, ?_, newL_fin R (f1.dat.app f2.dat) q⟩
      rw [f1.length, f2.length, ← lim_eq]; exact z
    · cases e
  · cases e) q⟩

/-! ### * -/
theorem tuple_mul_same (l : Addr) (items : Array Value) (n : Nat) (dd : Option Addr) (sl : Array (Option Value)) (x : Int) (u : Tok) (c0 : (decide (x < -(2 ^ 63)) || decide (x ≥ 2 ^ 63)) = false) (c1 : (items.isEmpty || x == 1) = true) :
    Meets (Builtin.«tuple.__mul__» ⟨[.ref l, .int x u], []⟩) (fun _ R s => s.heap.get? l = some { cls := .type "tuple", dict := dd, data := .seq items n, slots := sl } ∧ R (.ok (.ret (Value.ref l))) s) :=
  .of_wp fun prog w A R s h => by
    obtain ⟨hp, g, d, tk, os⟩ := s
    obtain ⟨hl, h⟩ := h
    have f1 := AutoSeq1.idx_int
    wp_walk using wpAny_loadPart' hl
    repeat (first
      | (refine wpAny_ite_false (decide_eq_false (by rw [c0]; exact Bool.false_ne_true)) ?_; wp_walk using wpAny_loadPart' hl)
      | (refine wpAny_ite_true (decide_eq_true (by rw [c1])) ?_; wp_walk using wpAny_loadPart' hl))
    all_goals first | exact ⟨_, rfl, h⟩ | skip
theorem tuple_mul_none (l : Addr) (items : Array Value) (n : Nat) (dd : Option Addr) (sl : Array (Option Value)) (x : Int) (u : Tok) (c0 : (decide (x < -(2 ^ 63)) || decide (x ≥ 2 ^ 63)) = false) (c1 : (items.isEmpty || x == 1) = false) (c2 : (decide (x ≤ 0) || items.isEmpty) = true) :
    Meets (Builtin.«tuple.__mul__» ⟨[.ref l, .int x u], []⟩) (fun _ R s => s.heap.get? l = some { cls := .type "tuple", dict := dd, data := .seq items n, slots := sl } ∧ R (.ok (.ret (Value.ref s.heap.objs.size))) { s with heap := s.heap.push { cls := Value.type "tuple", data := Data.seq #[] } }) :=
  .of_wp fun prog w A R s h => by
    obtain ⟨hp, g, d, tk, os⟩ := s
    obtain ⟨hl, h⟩ := h
    have f1 := AutoSeq1.idx_int
    have hz : (#[] : Array Value).size ≤ sizeLine := Nat.zero_le _
    wp_walk using wpAny_loadPart' hl
    repeat (first
      | (refine wpAny_ite_false (decide_eq_false (by rw [c0]; exact Bool.false_ne_true)) ?_; wp_walk using wpAny_loadPart' hl)
      | (refine wpAny_ite_false (decide_eq_false (by rw [c1]; exact Bool.false_ne_true)) ?_; wp_walk using wpAny_loadPart' hl)
      | (refine wpAny_ite_true (decide_eq_true (by rw [c2])) ?_; wp_walk using wpAny_loadPart' hl)
      | (refine wpAny_ite_false (decide_eq_false (Nat.not_lt.mpr hz)) ?_; wp_walk using wpAny_loadPart' hl))
    all_goals exact ⟨_, rfl, h⟩
/-- t * k, k small -/
def rRepF (K : PySem.W.Frag) : R2 := fun x y H Q => ∃ l k xs, x = .ref l ∧ y = .int k ∧ SqT K H l xs ∧ -1000 ≤ k ∧ k ≤ 1000 ∧ xs.length ≤ 1000 ∧
  ((xs = [] ∨ k = 1) → Q (.ref l) H) ∧ NewT H (List.replicate k.toNat xs).flatten Q
theorem op_repF : OpR X (binaryOp .Mult) (rRepF X.K) := by
  intro pins s σ H x y v u Q I rx ry h
  obtain ⟨l, k, xs, rfl, rfl, hT, h1, h2, hz, q0, q⟩ := h
  cases rx
  obtain ⟨t, rfl⟩ := ry
  obtain ⟨its, r, ⟨⟨cls, dd, data, sl⟩, ho, hc, n, hd⟩, hs⟩ := I.tuple hT
  simp only at hc hd
  subst hc hd
  have hle : its.length = xs.length := r.length.symm
  have c0 : (decide (k < -(2 ^ 63)) || decide (k ≥ 2 ^ 63)) = false := by
    rw [decide_eq_false (by omega), decide_eq_false (by omega)] <;> rfl
  have road : ∀ {R : Value → Shared → Prop}, wpAny (model X.prog X.w) X.A (call (.builtin "tuple.__mul__") [.ref l, .int k t]) R X.xe s → wpAny (model X.prog X.w) X.A (binaryOp .Mult (.ref l) (.int k t)) R X.xe s := fun {R} hh =>
    wpAny_binaryOp_repeat_ref (T := "tuple") (U := "int") (by decide) ⟨_, ho, rfl⟩ (fun s' => typeIs_int s' k t) noFill_tuple_mul F.fills_int_mul F.slot_int_rmul repeat_tuple F.slot_int_index.lookup
      (call_meets F.slot_int_rmul (typeIs_int s k t) F.entry_int_rmul (F.args_int_rmul_2 _ _) (int_rmul_tuple k t l its.toArray n dd sl) ⟨ho, rfl, ⟨_, ho, rfl⟩, hh⟩)
  cases c1 : (its.toArray.isEmpty || k == 1) with
  | true =>
    refine road (call_meets F.slot_tuple_mul ⟨_, ho, rfl⟩ F.entry_tuple_mul (F.args_tuple_mul_2 _ _) (tuple_mul_same l its.toArray n dd sl k t c0 c1) ⟨ho, ⟨.ref l, H, I, rfl, q0 ?_⟩⟩)
    rcases Bool.or_eq_true_iff.mp c1 with z | z
    · left
      cases its with
      | nil => exact List.eq_nil_of_length_eq_zero hle.symm
      | cons a b => cases z
    · right
      exact eq_of_beq z
  | false =>
    cases c2 : (decide (k ≤ 0) || its.toArray.isEmpty) with
    | true =>
      refine road (call_meets F.slot_tuple_mul ⟨_, ho, rfl⟩ F.entry_tuple_mul (F.args_tuple_mul_2 _ _) (tuple_mul_none l its.toArray n dd sl k t c0 c1 c2) ⟨ho, ?_⟩)
      have hk : k ≤ 0 := by
        rw [Bool.or_eq_false_iff] at c1
        rw [c1.1, Bool.or_false] at c2
        exact of_decide_eq_true c2
      have e : k.toNat = 0 := by omega
      rw [e] at q
      exact ⟨.ref s.heap.objs.size, _, invTup (us := []) I .nil (Nat.zero_le _) s.toks, rfl, q _ (tupO []) (I.hok.fresh (Nat.le_refl _)) rfl⟩
    | false =>
      have hk : 0 < k := by
        rw [Bool.or_eq_false_iff] at c2
        have := of_decide_eq_false c2.1
        omega
      have hsz0 : its.toArray.size = xs.length := by rw [List.size_toArray, hle]
      have hm : ((its.toArray.size : Nat) : Int) * k ≤ 1000000 := by
        rw [hsz0]
        have a1 : ((xs.length : Nat) : Int) * k ≤ 1000 * k := Int.mul_le_mul_of_nonneg_right (by omega) (by omega)
        omega
      have flen : (List.replicate k.toNat its).flatten.length ≤ sizeLine := by
        rw [PyProof.Rows.lm_len_rep_flat, hle, sizeLine_eq]
        have a1 : k.toNat * xs.length ≤ 1000 * 1000 := Nat.mul_le_mul (by omega) hz
        omega
      have c4 : Builtin.Tuple.tupleTooMany (((its.toArray.size : Nat) : Int) * k) = false := by
        unfold Builtin.Tuple.tupleTooMany
        rw [sizeLine_eq]
        exact decide_eq_false (by omega)
      refine road (call_meets F.slot_tuple_mul ⟨_, ho, rfl⟩ F.entry_tuple_mul (F.args_tuple_mul_2 _ _) (tuple_mulW l its.toArray n dd sl k t c0 c1 c2 (by omega) c4 (by rw [size_rep, List.size_toArray]; exact flen)) ⟨ho, ?_⟩)
      rw [size_rep]
      refine ⟨.ref s.heap.objs.size, _, invTup I (r.rep k.toNat) ?_ s.toks, rfl, q _ (tupO _) (I.hok.fresh (Nat.le_refl _)) rfl⟩
      rw [(r.rep k.toNat).length]
      exact flen
def rRepL : R2 := fun x y H Q => ∃ l k xs, x = .ref l ∧ y = .int k ∧ H l = some (.lst xs) ∧ -(2 ^ 63) ≤ k ∧ k < 2 ^ 63 ∧ xs.length * k.toNat ≤ sizeLine ∧ NewL H (List.replicate k.toNat xs).flatten Q
theorem op_repL : OpR X (binaryOp .Mult) rRepL := fun pins s σ H x y v u Q I rx ry h => op_rep pins s σ H x y v u Q I rx ry h
theorem small_of {i : Int} (h : small i = true) : -(2 ^ 64) < i ∧ i < 2 ^ 64 := by
  unfold small at h
  have := of_decide_eq_true h
  omega
theorem repL_nil (k : Int) : repL k [] = [] := by
  unfold repL
  induction k.toNat with
  | zero => rfl
  | succ n ih => rw [List.replicate_succ, List.flatten_cons, ih]; rfl
theorem o_mul : Op2 X 1 (binaryOp .Mult) mulD := by
  refine ⟨_, (op_mul.or op_repF).or op_repL, fun g G H s x y dx dy d Q R wx wy e q => ?_⟩
  unfold mulD at e
  split at e
  · split at e
    · rename_i z
      cases e
      refine .inl (.inl ⟨_, _, dInt R.gh wx, dInt R.gh wy, ?_, q _ G H R (Adv.refl _ _ _) (.int _)⟩)
      rcases Bool.or_eq_true_iff.mp z with z | z
      · exact .inl (small_of z)
      · exact .inr (small_of z)
    · cases e
  · split at e
    · rename_i xs k z
      cases e
      simp only [Bool.and_eq_true, decide_eq_true_eq] at z
      obtain ⟨z1, z3⟩ := z
      obtain ⟨p, vs, rfl, h1, f1⟩ := View.list R.gh wx
      refine .inr ⟨p, _, vs, rfl, dInt R.gh wy, (msk_some h1).2, by omega, by omega, ?_, newL_dat R (f1.dat.rep _) q⟩
      rw [f1.length, ← lim_eq]; exact z3
    · cases e
  · split at e
    · rename_i xs k z
      cases e
      simp only [Bool.and_eq_true, decide_eq_true_eq] at z
      obtain ⟨z1, z2⟩ := z
      have w1 := View.tuple wx
      cases id w1 with
      | tup h1 n1 l1 =>
        rename_i a1 o1 vs1
        refine .inl (.inr ⟨_, _, vs1, rfl, dInt R.gh wy, .inl (.inr ⟨_, (msk_some (R.gh _ _ h1)).2⟩), by omega, by omega, by rw [l1.length]; exact z2, fun z => ?_, newT_fin R (l1.rep _) q⟩)
        have es : repL k xs = xs := by
          rcases z with z | z
          · subst z
            cases l1
            exact repL_nil k
          · subst z
            show (List.replicate 1 xs).flatten = xs
            simp
        rw [es] at q
        exact q _ G H R (Adv.refl _ _ _) w1
    · cases e
  · cases e
/-- [..] * k -/
def repD : D → D → Option D
  | .list a, .int k => if decide (k.natAbs < 2 ^ 62) && decide (a.length * k.toNat ≤ lim) then some (.list (repL k a)) else none
  | _, _ => none
theorem sf_rep (ha : SE X 1 a fa) (hb : SE X 1 b fb) : SF X 1 (.BinOp a .Mult b pos) (bin repD fa fb) := ⟨peMono (pe_op op_repL ha.pe hb.pe) fun σ H Q ⟨g, G, ss, s, d, s', R, ef, q⟩ => bin_runF R ef (fun g G H s x y dx dy d Q R wx wy e q => by
  unfold repD at e
  split at e
  · split at e
    · rename_i xs k z
      cases e
      simp only [Bool.and_eq_true, decide_eq_true_eq] at z
      obtain ⟨z1, z3⟩ := z
      obtain ⟨p, vs, rfl, h1, f1⟩ := View.list R.gh wx
      refine ⟨p, _, vs, rfl, dInt R.gh wy, (msk_some h1).2, by omega, by omega, ?_, newL_fin R (f1.dat.rep _) q⟩
      rw [f1.length, ← lim_eq]; exact z3
    · cases e
  · cases e) q⟩

/-! ### x[i] -/
theorem ixN_eq (n : Nat) (i : Int) : L2.ixN n i = Ev.ixN n i := rfl
theorem at_eq {vs : List V} {ds : List D} {G : Hp} (l : DatL G vs ds) {i : Int} {d : D} (h : at_ ds i = some d) : ∃ v, atI vs i = some v ∧ Dat G v d := by
  unfold at_ at h
  unfold atI
  rw [l.length, ixN_eq]
  cases e : Ev.ixN ds.length i with
  | none => rw [e] at h; cases h
  | some j =>
    rw [e] at h
    obtain ⟨v, e2, q⟩ := l.get (show ds[j]? = some d from h)
    exact ⟨v, e2, q⟩
theorem at_eqF {vs : List V} {ds : List D} {Rr : V → D → Prop} (l : Fa Rr vs ds) {i : Int} {d : D} (h : at_ ds i = some d) : ∃ v, atI vs i = some v ∧ Rr v d := by
  unfold at_ at h
  unfold atI
  rw [l.length, ixN_eq]
  cases e : Ev.ixN ds.length i with
  | none => rw [e] at h; cases h
  | some j =>
    rw [e] at h
    obtain ⟨v, e2, q⟩ := l.get (show ds[j]? = some d from h)
    exact ⟨v, e2, q⟩
/-- a list's or tuple's item: seen one less deep -/
def ixS : D → D → Option D
  | .list ds, .int i => at_ ds i
  | .tuple ds, .int i => at_ ds i
  | _, _ => none
theorem se_ix (ha : SE X (n + 1) a fa) (hb : SE X m b fb) (hs : PlainIx b := by exact fun _ _ => rfl) : SE X n (.Subscript a b pos) (bin ixS fa fb) := ⟨peMono (pe_ix (ix_list.or ix_tup) ha.pe hb.pe hs) fun σ H Q ⟨g, G, ss, s, d, s', R, ef, q⟩ => by
  obtain ⟨dx, s1, e1, ef⟩ := bnd_inv ef
  obtain ⟨dy, s2, e2, ef⟩ := bnd_inv ef
  obtain ⟨e3, e4⟩ := lft_inv ef
  subst e4
  refine ⟨g, G, ss, s, dx, s1, R, e1, fun x G1 H1 R1 A1 w1 => ?_⟩
  refine ⟨g, G1, ss, s1, dy, s', R.ext A1 R1, e2, fun y G2 H2 R2 A2 w2 => ?_⟩
  have A12 := A1.trans R1 A2 ⟨_, R2⟩
  have w1' := w1.mono A2.g A2.h
  unfold ixS at e3
  split at e3
  · rename_i ds i
    obtain ⟨p, vs, rfl, h1, f1⟩ := View.list R2.gh w1'
    obtain ⟨v, ev, qv⟩ := at_eqF f1 e3
    exact .inl ⟨p, vs, _, v, rfl, dInt R2.gh w2, .inl (.inl (msk_some h1).2), ev, q v G2 H2 R2 A12 qv⟩
  · rename_i ds i
    have w := View.tuple w1'
    cases w with
    | tup h1 n1 l1 =>
      obtain ⟨v, ev, qv⟩ := at_eq l1 e3
      exact .inr ⟨_, _, _, v, rfl, dInt R2.gh w2, .inl (.inr ⟨_, (msk_some (R2.gh _ _ h1)).2⟩), ev, q v G2 H2 R2 A12 (.of qv n)⟩
  · cases e3⟩

/-! ### slices -/
theorem sIx_eq (n d : Nat) (o : Option Int) : HT.sIx n d o = Ev.sIx n d o := by cases o <;> rfl
theorem cut_dat {G : Hp} {vs : List V} {ds : List D} (l : DatL G vs ds) (lo hi : Option Int) : DatL G (cutV vs lo hi) (cut ds lo hi) := by
  unfold cutV cut
  rw [l.length, sIx_eq, sIx_eq]
  exact (l.drop _).take _
theorem cut_self {G : Hp} {vs : List V} {ds : List D} {dl dh : Option Int} (l1 : DatL G vs ds) (e : cutV vs dl dh = vs) : cut ds dl dh = ds := by
  have hl : (cut ds dl dh).length = ds.length := by
    rw [← (cut_dat l1 dl dh).length, e, l1.length]
  unfold cut at hl ⊢
  rw [List.length_take, List.length_drop] at hl
  have a1 : Ev.sIx ds.length 0 dl = 0 ∨ ds = [] := by
    cases ds with
    | nil => exact .inr rfl
    | cons x y => left; simp only [List.length_cons] at hl ⊢; omega
  rcases a1 with a1 | a1
  · rw [a1] at hl ⊢
    rw [List.drop_zero]
    exact List.take_of_length_le (by omega)
  · subst a1; simp
abbrev EvO := Slots → M (Option Int)
def noPart : EvO := fun _ => ret none
def part (f : EvE) : EvO := fun ss => bnd (f ss) fun x => match x with
  | .int i => ret (some i)
  | _ => stop
def sli (fx : EvE) (fl fh : EvO) : EvE := fun ss => bnd (fx ss) fun x => bnd (fl ss) fun l => bnd (fh ss) fun h => lft (slD x l h)
def tO (f : EvO) : TO := fun σ H Q => ∃ g G ss s d s', Rel g G H σ ss s ∧ f ss s = some (d, s') ∧ ∀ G' H', RelE g G' H' s' → Adv g.sa G H G' H' → Q d H'
theorem so_none : PO X none (tO noPart) := ⟨fun pins s σ H Q I ⟨g, G, ss, sr, d, s', R, ef, q⟩ => by
  obtain ⟨e1, e2⟩ := ret_inv ef
  subst e1; subst e2
  exact po_none.run pins s σ H Q I (q G H R.e (Adv.refl _ _ _))⟩
theorem so_some (h : SE X m e f) : PO X (some e) (tO (part f)) := ⟨fun pins s σ H Q I ⟨g, G, ss, sr, d, s', R, ef, q⟩ => by
  refine (po_some h.pe).run pins s σ H Q I ?_
  obtain ⟨dx, s1, e1, ef⟩ := bnd_inv ef
  refine ⟨g, G, ss, sr, dx, s1, R, e1, fun x G1 H1 R1 A1 w1 => ?_⟩
  cases dx <;> try (cases ef; done)
  obtain ⟨e2, e3⟩ := ret_inv ef
  subst e2; subst e3
  exact ⟨_, dInt R1.gh w1, q G1 H1 R1 A1⟩⟩
def rSlF (K : PySem.W.Frag) : V → Option Int → Option Int → Hp → VK → Prop := fun x lo hi H Q => ∃ a xs, x = .ref a ∧ SqT K H a xs ∧
  (cutV xs lo hi = xs → Q (.ref a) H) ∧ NewT H (cutV xs lo hi) Q
theorem sl_tupF : SlR X (rSlF X.K) := by
  intro pins s σ H x v vl vu lo hi sl Q I rx hs pl pu h
  obtain ⟨a, xs, rfl, hx, q1, q2⟩ := h
  cases rx
  obtain ⟨its, r, ht, hz⟩ := I.tuple hx
  have hlen : its.toArray.size = xs.length := by rw [List.size_toArray]; exact r.length.symm
  refine ⟨"tuple", _, PyProof.Rows.slot_tuple_getitem.lookup, ht.typeIs, ?_⟩
  by_cases hw : HT.sIx xs.length 0 lo = 0 ∧ HT.sIx xs.length xs.length hi = xs.length
  · refine getItem_tuple_whole ht hs pl pu (by rw [hlen]; exact hw) ⟨.ref a, H, I, rfl, q1 ?_⟩
    unfold cutV
    rw [hw.1, hw.2]
    simp
  · refine HT.getItem_tuple_cut ht hs pl pu (by rw [hlen]; exact hw) ?_ (by rw [hlen]; exact hz)
    rw [hlen]
    exact ⟨.ref s.heap.objs.size, _, invTup I ((r.drop (HT.sIx xs.length 0 lo)).take (HT.sIx xs.length xs.length hi - HT.sIx xs.length 0 lo)) (Nat.le_trans (cutV_length xs lo hi) hz) s.toks, rfl, q2 _ (tupO _) (I.hok.fresh (Nat.le_refl _)) rfl⟩
def rSlN (K : PySem.W.Frag) : V → Option Int → Option Int → Hp → VK → Prop := fun x lo hi H Q => ∃ a xs, x = .ref a ∧ SqL K H a xs ∧ NewL H (cutV xs lo hi) Q
theorem sl_listN : SlR X (rSlN X.K) := fun pins s σ H x v vl vu lo hi sl Q I rx hs pl pu h => sl_list pins s σ H x v vl vu lo hi sl Q I rx hs pl pu h
theorem se_slice {lo hi : Option Expr} {p2 : Pos} {fl fh : EvO} (ha : SE X 1 a fa) (hl : PO X lo (tO fl)) (hh : PO X hi (tO fh)) : SE X n (.Subscript a (.Slice lo hi none p2) pos) (sli fa fl fh) := ⟨peMono (pe_slice (sl_listN.or sl_tupF) ha.pe hl hh) fun σ H Q ⟨g, G, ss, s, d, s', R, ef, q⟩ => by
  obtain ⟨dx, s1, e1, ef⟩ := bnd_inv ef
  obtain ⟨dl, s2, e2, ef⟩ := bnd_inv ef
  obtain ⟨dh, s3, e3, ef⟩ := bnd_inv ef
  obtain ⟨e4, e5⟩ := lft_inv ef
  subst e5
  refine ⟨g, G, ss, s, dx, s1, R, e1, fun x G1 H1 R1 A1 w1 => ?_⟩
  refine ⟨g, G1, ss, s1, dl, s2, R.ext A1 R1, e2, fun G2 H2 R2 A2 => ?_⟩
  have A12 := A1.trans R1 A2 ⟨_, R2⟩
  refine ⟨g, G2, ss, s2, dh, s', R.ext A12 R2, e3, fun G3 H3 R3 A3 => ?_⟩
  have A13 := A12.trans R2 A3 ⟨_, R3⟩
  have w := (w1.mono A2.g A2.h).mono A3.g A3.h
  unfold slD at e4
  split at e4
  · rename_i ds
    cases e4
    obtain ⟨p, vs, rfl, h1, f1⟩ := View.list R3.gh w
    exact .inl ⟨p, vs, rfl, .inl (.inl (msk_some h1).2), newL_dat R3 (cut_dat f1.dat dl dh) fun v G' H' R' A' w' => q v G' H' R' (A13.trans R3 A' ⟨_, R'⟩) (.of w' n)⟩
  · cases e4
    have w' := View.tuple w
    cases id w' with
    | tup h1 n1 l1 =>
      refine .inr ⟨_, _, rfl, .inl (.inr ⟨_, (msk_some (R3.gh _ _ h1)).2⟩), fun e => ?_, newT_fin R3 (cut_dat l1 dl dh) fun v G' H' R' A' w' => q v G' H' R' (A13.trans R3 A' ⟨_, R'⟩) (.of w' n)⟩
      have e2 := cut_self l1 e
      rw [e2] at q
      exact q _ G3 H3 R3 A13 (.of w' n)
  · cases e4⟩
end
end Ev
end

section
set_option linter.all false
set_option maxRecDepth 100000
/-! Rules: calls of built-in functions and methods. -/
namespace Ev
open PySem PyProof.Rows L2

section
variable {X : Cx} {n m : Nat} {e a b c : Expr} {f fa fb fc : EvE} {pos p p2 apos cpos : Pos} {x : Str}

def Call1 (X : Cx) (m : Nat) (F : Value) (op : D → Option D) : Prop := ∃ r, CallR X F r ∧ ∀ (g : Gh) (G H : Hp) (s : Src) (x : V) (dx d : D) (Q : VK), RelE g G H s → View m G (msk g.sa H) x dx → op dx = some d →
  (∀ v G' H', RelE g G' H' s → Adv g.sa G H G' H' → Dat G' v d → Q v H') → r [x] H Q
def Call2 (X : Cx) (m : Nat) (F : Value) (op : D → D → Option D) : Prop := ∃ r, CallR X F r ∧ ∀ (g : Gh) (G H : Hp) (s : Src) (x y : V) (dx dy d : D) (Q : VK), RelE g G H s → View m G (msk g.sa H) x dx → View m G (msk g.sa H) y dy → op dx dy = some d →
  (∀ v G' H', RelE g G' H' s → Adv g.sa G H G' H' → Dat G' v d → Q v H') → r [x, y] H Q
/-- .. a new list comes -/
def Call1F (X : Cx) (m : Nat) (F : Value) (op : D → Option D) : Prop := ∃ r, CallR X F r ∧ ∀ (g : Gh) (G H : Hp) (s : Src) (x : V) (dx d : D) (Q : VK), RelE g G H s → View m G (msk g.sa H) x dx → op dx = some d →
  (∀ v G' H' F', RelE g G' H' s → Adv g.sa G H G' H' → Own 1 G' H' v d F' → Fresh g.sa H G' F' → Q v H') → r [x] H Q
theorem un_run {g : Gh} {G H : Hp} {σ : L2.St} {ss : Slots} {s s' : Src} {d : D} {op : D → Option D} {Q : VK} {r : List V → Hp → VK → Prop} (R : Rel g G H σ ss s) (ef : un op fa ss s = some (d, s'))
    (hr : ∀ (g : Gh) (G H : Hp) (s : Src) (x : V) (dx d : D) (Q : VK), RelE g G H s → View m G (msk g.sa H) x dx → op dx = some d → (∀ v G' H', RelE g G' H' s → Adv g.sa G H G' H' → Dat G' v d → Q v H') → r [x] H Q)
    (q : ∀ v G' H', RelE g G' H' s' → Adv g.sa G H G' H' → View n G' (msk g.sa H') v d → Q v H') : tCB r (tCons (tE m fa) tNil) σ H Q := by
  obtain ⟨dx, s1, e1, ef⟩ := bnd_inv ef
  obtain ⟨e3, e4⟩ := lft_inv ef
  subst e4
  refine ⟨g, G, ss, s, dx, s', R, e1, fun x G1 H1 R1 A1 w1 => ?_⟩
  exact hr g G1 H1 s' x dx d Q R1 w1 e3 fun v G' H' R' A' w => q v G' H' R' (A1.trans R1 A' ⟨_, R'⟩) (.of w n)
theorem se_b1 {id : String} {op : D → Option D} (h : Call1 X m (.builtin id) op) (hg : Gl X x) (hm : X.mg x = none) (hv : bootBuiltins x = some (.builtin id)) (ha : SE X m a fa) (hn : x ≠ "__name__" := by decide) (hdb : (x == ("__debug__" : Str)) = false := by decide)
    (he : starEach [a] X.env = (false, eval a X.env) :: starEach [] X.env := by rfl) : SE X n (.Call (.Name x p) [a] [] pos) (un op fa) := by
  obtain ⟨r, hc, hr⟩ := h
  exact ⟨peMono (pe_callB hc hg hm hv (pa_cons ha.pe pa_nil he) hn hdb he rfl) fun σ H Q ⟨g, G, ss, s, d, s', R, ef, q⟩ => un_run R ef hr q⟩
theorem se_t1 {id : String} {op : D → Option D} (h : Call1 X m (.type id) op) (hg : Gl X x) (hm : X.mg x = none) (hv : bootBuiltins x = some (.type id)) (ha : SE X m a fa) (hn : x ≠ "__name__" := by decide) (hdb : (x == ("__debug__" : Str)) = false := by decide)
    (he : starEach [a] X.env = (false, eval a X.env) :: starEach [] X.env := by rfl) : SE X n (.Call (.Name x p) [a] [] pos) (un op fa) := by
  obtain ⟨r, hc, hr⟩ := h
  exact ⟨peMono (pe_callTy hc hg hm hv (pa_cons ha.pe pa_nil he) hn hdb he rfl) fun σ H Q ⟨g, G, ss, s, d, s', R, ef, q⟩ => un_run R ef hr q⟩
theorem un_runF {g : Gh} {G H : Hp} {σ : L2.St} {ss : Slots} {s s' : Src} {d : D} {op : D → Option D} {Q : VK} {r : List V → Hp → VK → Prop} (R : Rel g G H σ ss s) (ef : un op fa ss s = some (d, s'))
    (hr : ∀ (g : Gh) (G H : Hp) (s : Src) (x : V) (dx d : D) (Q : VK), RelE g G H s → View m G (msk g.sa H) x dx → op dx = some d → (∀ v G' H' F', RelE g G' H' s → Adv g.sa G H G' H' → Own 1 G' H' v d F' → Fresh g.sa H G' F' → Q v H') → r [x] H Q)
    (q : ∀ v G' H' F', RelE g G' H' s' → Adv g.sa G H G' H' → Own 1 G' H' v d F' → Fresh g.sa H G' F' → Q v H') : tCB r (tCons (tE m fa) tNil) σ H Q := by
  obtain ⟨dx, s1, e1, ef⟩ := bnd_inv ef
  obtain ⟨e3, e4⟩ := lft_inv ef
  subst e4
  refine ⟨g, G, ss, s, dx, s', R, e1, fun x G1 H1 R1 A1 w1 => ?_⟩
  exact hr g G1 H1 s' x dx d Q R1 w1 e3 fun v G' H' F' R' A' w fr => q v G' H' F' R' (A1.trans R1 A' ⟨_, R'⟩) w (fr.back A1 R1 R.e.src.there)
theorem sf_b1 {id : String} {op : D → Option D} (h : Call1F X m (.builtin id) op) (hg : Gl X x) (hm : X.mg x = none) (hv : bootBuiltins x = some (.builtin id)) (ha : SE X m a fa) (hn : x ≠ "__name__" := by decide) (hdb : (x == ("__debug__" : Str)) = false := by decide)
    (he : starEach [a] X.env = (false, eval a X.env) :: starEach [] X.env := by rfl) : SF X 1 (.Call (.Name x p) [a] [] pos) (un op fa) := by
  obtain ⟨r, hc, hr⟩ := h
  exact ⟨peMono (pe_callB hc hg hm hv (pa_cons ha.pe pa_nil he) hn hdb he rfl) fun σ H Q ⟨g, G, ss, s, d, s', R, ef, q⟩ => un_runF R ef hr q⟩
theorem sf_t1 {id : String} {op : D → Option D} (h : Call1F X m (.type id) op) (hg : Gl X x) (hm : X.mg x = none) (hv : bootBuiltins x = some (.type id)) (ha : SE X m a fa) (hn : x ≠ "__name__" := by decide) (hdb : (x == ("__debug__" : Str)) = false := by decide)
    (he : starEach [a] X.env = (false, eval a X.env) :: starEach [] X.env := by rfl) : SF X 1 (.Call (.Name x p) [a] [] pos) (un op fa) := by
  obtain ⟨r, hc, hr⟩ := h
  exact ⟨peMono (pe_callTy hc hg hm hv (pa_cons ha.pe pa_nil he) hn hdb he rfl) fun σ H Q ⟨g, G, ss, s, d, s', R, ef, q⟩ => un_runF R ef hr q⟩
theorem se_b2 {id : String} {op : D → D → Option D} (h : Call2 X m (.builtin id) op) (hg : Gl X x) (hm : X.mg x = none) (hv : bootBuiltins x = some (.builtin id)) (ha : SE X m a fa) (hb : SE X m b fb) (hn : x ≠ "__name__" := by decide) (hdb : (x == ("__debug__" : Str)) = false := by decide)
    (he : starEach [a, b] X.env = (false, eval a X.env) :: starEach [b] X.env := by rfl) (he2 : starEach [b] X.env = (false, eval b X.env) :: starEach [] X.env := by rfl) (hp : (backTo pos (starEach [b] X.env)).any (·.1) = false := by rfl) : SE X n (.Call (.Name x p) [a, b] [] pos) (bin op fa fb) := by
  obtain ⟨r, hc, hr⟩ := h
  refine ⟨peMono (pe_callB hc hg hm hv (pa_cons ha.pe (pa_cons hb.pe pa_nil he2) he) hn hdb he hp) fun σ H Q ⟨g, G, ss, s, d, s', R, ef, q⟩ => ?_⟩
  obtain ⟨dx, s1, e1, ef⟩ := bnd_inv ef
  obtain ⟨dy, s2, e2, ef⟩ := bnd_inv ef
  obtain ⟨e3, e4⟩ := lft_inv ef
  subst e4
  refine ⟨g, G, ss, s, dx, s1, R, e1, fun x G1 H1 R1 A1 w1 => ?_⟩
  refine ⟨g, G1, ss, s1, dy, s', R.ext A1 R1, e2, fun y G2 H2 R2 A2 w2 => ?_⟩
  exact hr g G2 H2 s' x y dx dy d Q R2 (w1.mono A2.g A2.h) w2 e3 fun v G' H' R' A' w => q v G' H' R' ((A1.trans R1 A2 ⟨_, R2⟩).trans R2 A' ⟨_, R'⟩) (.of w n)

/-! ### what is read off the heap of now -/
theorem View.now {g : Gh} {G H : Hp} {s : Src} {v : V} {d : D} (R : RelE g G H s) (h : View m G (msk g.sa H) v d) : Dat H v d := (h.dat R.gh).mono msk_sub
theorem sq_list {K : PySem.W.Frag} {H : Hp} {v : V} {ds : List D} (h : Dat H v (.list ds)) : ∃ p vs, v = .ref p ∧ SqL K H p vs ∧ DatL H vs ds ∧ H p = some (.lst vs) := by
  cases h with
  | lst h l => exact ⟨_, _, rfl, .inl (.inl h), l, h⟩
theorem sq_tuple {K : PySem.W.Frag} {H : Hp} {v : V} {ds : List D} (h : Dat H v (.tuple ds)) : ∃ p vs, v = .ref p ∧ SqT K H p vs ∧ DatL H vs ds := by
  cases h with
  | tup h _ l => exact ⟨_, _, rfl, .inl (.inr ⟨_, h⟩), l⟩
theorem asInts_eq : ∀ {ds : List D} {ns : List Int}, asInts ds = some ns → ds = ns.map PyData.int
  | [], ns, h => by cases h; rfl
  | d :: ds, ns, h => by
    cases d <;> try (cases h; done)
    unfold asInts at h
    cases e : asInts ds with
    | none => rw [e] at h; cases h
    | some ms =>
      rw [e] at h
      cases h
      rw [asInts_eq e]; rfl
theorem asInts_map : ∀ ns : List Int, asInts (ns.map PyData.int) = some ns
  | [] => rfl
  | n :: ns => by show (asInts (ns.map PyData.int)).map (n :: ·) = _; rw [asInts_map ns]; rfl
theorem asBools_eq : ∀ {ds : List D} {ns : List Bool}, asBools ds = some ns → ds = ns.map PyData.bool
  | [], ns, h => by cases h; rfl
  | d :: ds, ns, h => by
    cases d <;> try (cases h; done)
    unfold asBools at h
    cases e : asBools ds with
    | none => rw [e] at h; cases h
    | some ms =>
      rw [e] at h
      cases h
      rw [asBools_eq e]; rfl
theorem asBools_map : ∀ ns : List Bool, asBools (ns.map PyData.bool) = some ns
  | [] => rfl
  | n :: ns => by show (asBools (ns.map PyData.bool)).map (n :: ·) = _; rw [asBools_map ns]; rfl
theorem DatL.of_bools {G : Hp} : ∀ {ns : List Bool} {vs : List V}, DatL G vs (ns.map PyData.bool) → vs = ns.map V.bl
  | [], _, .nil => rfl
  | n :: ns, _, .cons a t => by cases a; rw [DatL.of_bools t]; rfl

theorem zip_length {α β : Type} (f : α → β) (l : List α) {vs : List D} (h : (l.map f).length = vs.length) : ((l.map f).zip vs).length = l.length := by
  rw [List.length_zip, ← h, Nat.min_self, List.length_map]
/-! ### len, int, abs, sum, all, any, min, max -/
theorem c_len : Call1 X m (.builtin "len") lenD := by
  refine ⟨_, call_len_seq.or call_lenD, fun g G H s x dx d Q R wx e q => ?_⟩
  have w := wx.now R
  unfold lenD at e
  split at e
  · cases e
    obtain ⟨p, vs, rfl, h, l, _⟩ := sq_list (K := X.K) w
    refine .inl ⟨p, vs, rfl, .inl h, ?_⟩
    rw [l.length]
    exact q _ G H R (Adv.refl _ _ _) (.int _)
  · cases e
    obtain ⟨p, vs, rfl, h, l⟩ := sq_tuple (K := X.K) w
    refine .inl ⟨p, vs, rfl, .inr h, ?_⟩
    rw [l.length]
    exact q _ G H R (Adv.refl _ _ _) (.int _)
  · cases e
    cases w with
    | dK h e l =>
      rename_i a kvs ks vs
      refine .inr ⟨_, kvs, rfl, h, ?_⟩
      have h1 := l.length
      rw [List.length_map] at h1
      have e2 : (ks.zip vs).length = kvs.length := by
        rw [e, List.length_zip, List.length_map, ← h1, Nat.min_self]
      have := q (.int ((ks.zip vs).length : Nat)) G H R (Adv.refl _ _ _) (.int _)
      rw [e2] at this
      exact this
  · cases e
theorem c_int : Call1 X m (.type "int") intD := by
  refine ⟨_, call_int1, fun g G H s x dx d Q R wx e q => ?_⟩
  unfold intD at e
  split at e
  · cases e; exact .inl ⟨_, by rw [dInt R.gh wx], q _ G H R (Adv.refl _ _ _) (.int _)⟩
  · cases e; exact .inr ⟨_, by rw [dBl R.gh wx], q _ G H R (Adv.refl _ _ _) (.int _)⟩
  · cases e
theorem c_abs : Call1 X m (.builtin "abs") absD := by
  refine ⟨_, call_abs, fun g G H s x dx d Q R wx e q => ?_⟩
  unfold absD at e
  split at e
  · cases e; exact ⟨_, by rw [dInt R.gh wx], q _ G H R (Adv.refl _ _ _) (.int _)⟩
  · cases e
theorem c_sum (hc : X.calm = true) : Call1 X m (.builtin "sum") sumD := by
  refine ⟨_, cr_sum hc, fun g G H s x dx d Q R wx e q => ?_⟩
  unfold sumD at e
  cases dx <;> try (cases e; done)
  rename_i ds
  cases e1 : asInts ds with
  | none => simp [listed, e1] at e
  | some ns =>
    simp [listed, e1] at e
    subst e
    rw [asInts_eq e1] at wx
    obtain ⟨p, vs, rfl, h, l, _⟩ := sq_list (K := X.K) (wx.now R)
    rw [l.of_ints] at h
    exact ⟨p, ns, rfl, h, q _ G H R (Adv.refl _ _ _) (.int _)⟩
theorem c_all (hc : X.calm = true) : Call1 X m (.builtin "all") allD := by
  refine ⟨_, cr_all hc, fun g G H s x dx d Q R wx e q => ?_⟩
  unfold allD at e
  cases dx <;> try (cases e; done)
  rename_i ds
  cases e1 : asBools ds with
  | none => simp [listed, e1] at e
  | some ns =>
    have e2 : d = .bool (ns.all id) := by
      have : some (PyData.bool (ns.all id)) = some d := by rw [← e]; show _ = (asBools ds).map _; rw [e1]; rfl
      exact (Option.some.inj this).symm
    subst e2
    rw [asBools_eq e1] at wx
    obtain ⟨p, vs, rfl, h, l, _⟩ := sq_list (K := X.K) (wx.now R)
    rw [l.of_bools] at h
    exact ⟨p, ns, rfl, h, q _ G H R (Adv.refl _ _ _) (.bl _)⟩
theorem c_any (hc : X.calm = true) : Call1 X m (.builtin "any") anyD := by
  refine ⟨_, cr_any hc, fun g G H s x dx d Q R wx e q => ?_⟩
  unfold anyD at e
  cases dx <;> try (cases e; done)
  rename_i ds
  cases e1 : asBools ds with
  | none => simp [listed, e1] at e
  | some ns =>
    have e2 : d = .bool (ns.any id) := by
      have : some (PyData.bool (ns.any id)) = some d := by rw [← e]; show _ = (asBools ds).map _; rw [e1]; rfl
      exact (Option.some.inj this).symm
    subst e2
    rw [asBools_eq e1] at wx
    obtain ⟨p, vs, rfl, h, l, _⟩ := sq_list (K := X.K) (wx.now R)
    rw [l.of_bools] at h
    exact ⟨p, ns, rfl, h, q _ G H R (Adv.refl _ _ _) (.bl _)⟩
theorem minL_is : ∀ {ns : List Int} {m : Int}, minL ns = some m → m ∈ ns ∧ ∀ y ∈ ns, m ≤ y
  | [a], m, h => by cases h; simp
  | a :: b :: r, m, h => by
    have h' : (minL (b :: r)).map (fun m => if m < a then m else a) = some m := h
    cases e : minL (b :: r) with
    | none => rw [e] at h'; cases h'
    | some k =>
      rw [e] at h'
      obtain ⟨h1, h2⟩ := minL_is e
      have h3 : (if k < a then k else a) = m := Option.some.inj h'
      split at h3
      · subst h3
        refine ⟨List.mem_cons_of_mem _ h1, fun y hy => ?_⟩
        rcases List.mem_cons.mp hy with z | z
        · omega
        · exact h2 y z
      · subst h3
        refine ⟨List.mem_cons_self, fun y hy => ?_⟩
        rcases List.mem_cons.mp hy with z | z
        · omega
        · have := h2 y z; omega
theorem maxL_is : ∀ {ns : List Int} {m : Int}, maxL ns = some m → m ∈ ns ∧ ∀ y ∈ ns, y ≤ m
  | [a], m, h => by cases h; simp
  | a :: b :: r, m, h => by
    have h' : (maxL (b :: r)).map (fun m => if a < m then m else a) = some m := h
    cases e : maxL (b :: r) with
    | none => rw [e] at h'; cases h'
    | some k =>
      rw [e] at h'
      obtain ⟨h1, h2⟩ := maxL_is e
      have h3 : (if a < k then k else a) = m := Option.some.inj h'
      split at h3
      · subst h3
        refine ⟨List.mem_cons_of_mem _ h1, fun y hy => ?_⟩
        rcases List.mem_cons.mp hy with z | z
        · omega
        · exact h2 y z
      · subst h3
        refine ⟨List.mem_cons_self, fun y hy => ?_⟩
        rcases List.mem_cons.mp hy with z | z
        · omega
        · have := h2 y z; omega
theorem c_min (hc : X.calm = true) : Call1 X m (.builtin "min") minD := by
  refine ⟨_, cr_min hc, fun g G H s x dx d Q R wx e q => ?_⟩
  unfold minD at e
  cases dx <;> try (cases e; done)
  rename_i ds
  cases e1 : asInts ds with
  | none => simp [listed, e1] at e
  | some ns =>
    cases e2 : minL ns with
    | none => simp [listed, e1, e2] at e
    | some k =>
      simp [listed, e1, e2] at e
      subst e
      rw [asInts_eq e1] at wx
      obtain ⟨p, vs, rfl, h, l, _⟩ := sq_list (K := X.K) (wx.now R)
      rw [l.of_ints] at h
      obtain ⟨k1, k2⟩ := minL_is e2
      refine ⟨p, ns, rfl, h, List.length_pos_of_mem k1, fun j hj hle => ?_⟩
      have : j = k := by have a1 := hle k k1; have a2 := k2 j hj; omega
      subst this
      exact q _ G H R (Adv.refl _ _ _) (.int _)
theorem c_max (hc : X.calm = true) : Call1 X m (.builtin "max") maxD := by
  refine ⟨_, cr_max hc, fun g G H s x dx d Q R wx e q => ?_⟩
  unfold maxD at e
  cases dx <;> try (cases e; done)
  rename_i ds
  cases e1 : asInts ds with
  | none => simp [listed, e1] at e
  | some ns =>
    cases e2 : maxL ns with
    | none => simp [listed, e1, e2] at e
    | some k =>
      simp [listed, e1, e2] at e
      subst e
      rw [asInts_eq e1] at wx
      obtain ⟨p, vs, rfl, h, l, _⟩ := sq_list (K := X.K) (wx.now R)
      rw [l.of_ints] at h
      obtain ⟨k1, k2⟩ := maxL_is e2
      refine ⟨p, ns, rfl, h, List.length_pos_of_mem k1, fun j hj hle => ?_⟩
      have : j = k := by have a1 := hle k k1; have a2 := k2 j hj; omega
      subst this
      exact q _ G H R (Adv.refl _ _ _) (.int _)
theorem c_min2 (hc : X.calm = true) : Call2 X m (.builtin "min") min2 := by
  refine ⟨_, call_min2 hc, fun g G H s x y dx dy d Q R wx wy e q => ?_⟩
  unfold min2 at e
  split at e
  · cases e; exact ⟨_, _, by rw [dInt R.gh wx, dInt R.gh wy], q _ G H R (Adv.refl _ _ _) (.int _)⟩
  · cases e
theorem c_max2 (hc : X.calm = true) : Call2 X m (.builtin "max") max2 := by
  refine ⟨_, call_max2 hc, fun g G H s x y dx dy d Q R wx wy e q => ?_⟩
  unfold max2 at e
  split at e
  · cases e; exact ⟨_, _, by rw [dInt R.gh wx, dInt R.gh wy], q _ G H R (Adv.refl _ _ _) (.int _)⟩
  · cases e

/-! ### tuple(x), list(x) -/
def rTupF (K : PySem.W.Frag) : List V → Hp → VK → Prop := fun xs H Q => ∃ p ys, xs = [.ref p] ∧ ((SqL K H p ys ∧ NewT H ys Q) ∨ (SqT K H p ys ∧ Q (.ref p) H))
theorem call_tupF : CallR X (.type "tuple") (rTupF X.K) := by
  intro pins s σ H xs us Q I r h
  obtain ⟨p, ys, rfl, h⟩ := h
  obtain ⟨u, rfl, rx⟩ := vals1 r
  cases rx
  rcases h with ⟨hq, q⟩ | ⟨hq, q⟩
  · obtain ⟨its, r', pl, hz⟩ := I.list hq
    have hlen := r'.length
    refine call_tuple_list pl.isList (fun h' kp => ?_) (by simp only [List.size_toArray] <;> omega)
    have I1 : Inv X pins σ H { s with heap := h' } := I.kept (t' := s.toks) kp
    exact ⟨.ref h'.objs.size, _, invTup I1 r' hz s.toks, rfl, q _ (tupO its) (I1.hok.fresh (Nat.le_refl _)) rfl⟩
  · obtain ⟨its, r', pl, hz⟩ := I.tuple hq
    exact call_tuple_same pl ⟨.ref p, H, I, rfl, q⟩
theorem c_tup : Call1 X 1 (.type "tuple") toTup := by
  refine ⟨_, call_tupF, fun g G H s x dx d Q R wx e q => ?_⟩
  unfold toTup at e
  split at e
  · cases e
    obtain ⟨p, vs, rfl, h, l⟩ := View.list R.gh wx
    exact ⟨p, vs, rfl, .inl ⟨.inl (.inl (msk_some h).2), newT_fin R l.dat q⟩⟩
  · cases e
    have w := View.tuple wx
    cases id w with
    | tup h n l => exact ⟨_, _, rfl, .inr ⟨.inl (.inr ⟨_, (msk_some (R.gh _ _ h)).2⟩), q _ G H R (Adv.refl _ _ _) w⟩⟩
  · cases e
def rLstN (K : PySem.W.Frag) : List V → Hp → VK → Prop := fun xs H Q => ∃ p ys, xs = [.ref p] ∧ (SqL K H p ys ∨ SqT K H p ys) ∧ NewL H ys Q
theorem call_lstN : CallR X (.type "list") (rLstN X.K) := fun pins s σ H xs us Q I r h => call_list_of pins s σ H xs us Q I r h
def rLstD : List V → Hp → VK → Prop := fun xs H Q => ∃ (a : Addr) (kvs : List (Key × V)), xs = [.ref a] ∧ Rd H a (.dK kvs) ∧ NewL H (kvs.map fun kv => kV kv.1) Q
theorem call_lstD (hc : X.calm = true) : CallR X (.type "list") rLstD := fun pins s σ H xs us Q I r h => call_listD hc pins s σ H xs us Q I r h
theorem kV_dat {G : Hp} : ∀ k : Key, Dat G (kV k) (keyD k)
  | .inl i => .int i
  | .inr x => .str x
theorem keys_dat {G : Hp} {β : Type} : ∀ kvs : List (Key × β), DatL G (kvs.map fun kv => kV kv.1) (kvs.map fun kv => keyD kv.1)
  | [] => .nil
  | (k, _) :: r => .cons (kV_dat k) (keys_dat r)
theorem c_lst (hc : X.calm = true) : Call1F X 1 (.type "list") toLst := by
  refine ⟨_, call_lstN.or (call_lstD hc), fun g G H s x dx d Q R wx e q => ?_⟩
  unfold toLst at e
  split at e
  · cases e
    obtain ⟨p, vs, rfl, h, l⟩ := View.list R.gh wx
    exact .inl ⟨p, vs, rfl, .inl (.inl (.inl (msk_some h).2)), newL_fin R l.dat q⟩
  · cases e
    have w := View.tuple wx
    cases id w with
    | tup h n l => exact .inl ⟨_, _, rfl, .inr (.inl (.inr ⟨_, (msk_some (R.gh _ _ h)).2⟩)), newL_fin R l q⟩
  · cases e
    cases wx.now R with
    | dK h e l =>
      rename_i a kvs ks vs
      refine .inr ⟨_, kvs, rfl, .inl h, newL_fin R (ds := ks) (by rw [e]; exact keys_dat kvs) fun v G' H' F' R' A' w fr => ?_⟩
      have h1 := l.length
      have e2 : (ks.zip vs).map (·.1) = ks := by
        rw [List.map_fst_zip]
        rw [e, List.length_map]
        rw [List.length_map] at h1
        omega
      rw [e2] at q
      exact q v G' H' F' R' A' w fr
  · cases e

/-! ### list(range(..)), tuple(range(..)) -/
def rng (a b : Int) : List D := (List.range (b - a).toNat).map fun i => .int (a + (i : Nat))
theorem rng_dat {G : Hp} (a b : Int) : DatL G (rgV a b) (rng a b) := by
  unfold rgV rng
  generalize List.range (b - a).toNat = l
  induction l with
  | nil => exact .nil
  | cons i l ih => exact .cons (.int _) ih
def rgOk (a b : Int) : Bool := decide (0 ≤ a) && decide (a.natAbs ≤ 16777216) && decide (b.natAbs ≤ 16777216)
theorem rgOk_is {a b : Int} (h : rgOk a b = true) : RgOk a b := by
  unfold rgOk at h
  simp only [Bool.and_eq_true, decide_eq_true_eq] at h
  exact ⟨by omega, by omega, by omega, by omega, by omega⟩
def tR2 (fa fb : EvE) : EvL := fun ss => bnd (fa ss) fun x => bnd (fb ss) fun y => match x, y with
  | .int a, .int b => if rgOk a b then ret (rng a b) else stop
  | _, _ => stop
def tR1 (fa : EvE) : EvL := tR2 (cst (.int 0)) fa
/-- an expression that makes a range -/
structure SR (X : Cx) (e : Expr) (f : EvL) : Prop where
  pr : ∃ t, PRg X e t ∧ ∀ σ H Q, (∃ g G ss s ds s', Rel g G H σ ss s ∧ f ss s = some (ds, s') ∧ ∀ i j G' H', RelE g G' H' s' → Adv g.sa G H G' H' → ds = rng i j → rgOk i j = true → Q i j H') → t σ H Q
theorem sr_1 {p pos : Pos} (hg : Gl X "range") (hm : X.mg "range" = none) (ha : SE X m a fa) (na : starEach [a] X.env = (false, eval a X.env) :: starEach [] X.env := by rfl) : SR X (.Call (.Name "range" p) [a] [] pos) (tR1 fa) := ⟨_, prg_1 hg hm ha.pe na, fun σ H Q ⟨g, G, ss, s, ds, s', R, ef, q⟩ => by
  obtain ⟨dy, s1, e1, ef⟩ := bnd_inv (show bnd (fa ss) _ s = some (ds, s') from ef)
  refine ⟨g, G, ss, s, dy, s1, R, e1, fun x G1 H1 R1 A1 w1 => ?_⟩
  cases dy <;> try (cases ef; done)
  dsimp only at ef
  split at ef
  · rename_i z
    obtain ⟨e3, e4⟩ := ret_inv ef
    subst e4
    exact ⟨_, dInt R1.gh w1, q _ _ G1 H1 R1 A1 e3 z⟩
  · cases ef⟩
theorem sr_2 {p pos : Pos} (hg : Gl X "range") (hm : X.mg "range" = none) (ha : SE X m a fa) (hb : SE X m b fb) (na : starEach [a, b] X.env = (false, eval a X.env) :: starEach [b] X.env := by rfl)
    (nb : starEach [b] X.env = (false, eval b X.env) :: starEach [] X.env := by rfl) (hp : (backTo pos (starEach [b] X.env)).any (·.1) = false := by rfl) : SR X (.Call (.Name "range" p) [a, b] [] pos) (tR2 fa fb) := ⟨_, prg_2 hg hm ha.pe hb.pe na nb hp, fun σ H Q ⟨g, G, ss, s, ds, s', R, ef, q⟩ => by
  obtain ⟨dx, s0, e0, ef⟩ := bnd_inv ef
  obtain ⟨dy, s1, e1, ef⟩ := bnd_inv ef
  refine ⟨g, G, ss, s, dx, s0, R, e0, fun x G0 H0 R0 A0 w0 => ⟨g, G0, ss, s0, dy, s1, R.ext A0 R0, e1, fun y G1 H1 R1 A1 w1 => ?_⟩⟩
  cases dx <;> try (cases ef; done)
  cases dy <;> try (cases ef; done)
  dsimp only at ef
  split at ef
  · rename_i z
    obtain ⟨e3, e4⟩ := ret_inv ef
    subst e4
    exact ⟨_, _, dInt R1.gh (w0.mono A1.g A1.h), dInt R1.gh w1, q _ _ G1 H1 R1 (A0.trans R0 A1 ⟨_, R1⟩) e3 z⟩
  · cases ef⟩
theorem sf_lstR {fl : EvL} {p pos : Pos} (hc : X.calm = true) (hg : Gl X "list") (hm : X.mg "list" = none) (h : SR X e fl) (na : starEach [e] X.env = (false, eval e X.env) :: starEach [] X.env := by rfl) : SF X 1 (.Call (.Name "list" p) [e] [] pos) (compE fl) := by
  obtain ⟨t, pr, k⟩ := h.pr
  refine ⟨peMono (pe_listRg hc hg hm pr na) fun σ H Q ⟨g, G, ss, s, d, s', R, ef, q⟩ => ?_⟩
  obtain ⟨ds, s1, e1, ef⟩ := bnd_inv ef
  obtain ⟨e2, e3⟩ := ret_inv ef
  subst e2; subst e3
  refine k _ _ _ ⟨g, G, ss, s, ds, s', R, e1, fun i j G1 H1 R1 A1 eq ok => ⟨rgOk_is ok, ?_⟩⟩
  subst eq
  exact newL_fin R1 (rng_dat i j) fun v G' H' F R' A' w fr => q v G' H' F R' (A1.trans R1 A' ⟨_, R'⟩) w (fr.back A1 R1 R.e.src.there)
end
end Ev
end

section
set_option linter.all false
set_option maxRecDepth 100000
/-! Rules: isinstance, index, count, repr, in, is None, reversed slices, sorted. -/
namespace Ev
open PySem PyProof.Rows L2

/-! ### pure -/
def kdName : Kd → String
  | .int => "int" | .bool => "bool" | .str => "str" | .tuple => "tuple" | .list => "list" | .dict => "dict"
def tyName : D → String
  | .none => "NoneType" | .bool _ => "bool" | .int _ => "int" | .str _ => "str" | .list _ => "list" | .tuple _ => "tuple" | .dict _ => "dict"
/-- x.index(y), whole numbers -/
def idxD : D → D → Option D
  | .tuple ds, .int k => (asInts ds).bind fun ns => if k ∈ ns then some (.int (ns.idxOf k : Nat)) else none
  | .list ds, .int k => (asInts ds).bind fun ns => if k ∈ ns then some (.int (ns.idxOf k : Nat)) else none
  | _, _ => none
def cntD : D → D → Option D
  | .list ds, .int k => (asInts ds).bind fun ns => some (.int (ns.count k : Nat))
  | _, _ => none
/-- repr(x) -/
def reprD (x : D) : Option D := if x.showable && decide (x.depth ≤ 60) && decide (x.shown.length ≤ lim) then some (.str x.shown) else none
/-- x in y, numbers, texts, lists, tuples -/
def inS (x y : D) : Option D := match y with
  | .list ds => if SeqAt.shaped x && SeqAt.shaped (.list ds) then some (.bool (ds.any fun z => PyData.eqv z x)) else none
  | .tuple ds => if SeqAt.shaped x && SeqAt.shaped (.tuple ds) then some (.bool (ds.any fun z => PyData.eqv z x)) else none
  | _ => none
def ninS (x y : D) : Option D := match y with
  | .list ds => if SeqAt.shaped x && SeqAt.shaped (.list ds) then some (.bool (!ds.any fun z => PyData.eqv z x)) else none
  | .tuple ds => if SeqAt.shaped x && SeqAt.shaped (.tuple ds) then some (.bool (!ds.any fun z => PyData.eqv z x)) else none
  | _ => none
/-- by insertion -/
def ins (a : Int) : List Int → List Int
  | [] => [a]
  | b :: r => if a ≤ b then a :: b :: r else b :: ins a r
def isort : List Int → List Int
  | [] => []
  | a :: r => ins a (isort r)
def sortI (x : D) : Option D := match x with
  | .list ds => (asInts ds).map fun ns => .list ((isort ns).map .int)
  | .tuple ds => (asInts ds).map fun ns => .list ((isort ns).map .int)
  | .dict kvs => if kvs.length < 64 then (asInts (kvs.map (·.1))).map fun ns => .list ((isort ns).map .int) else none
  | _ => none
theorem ins_perm (a : Int) : ∀ l, (ins a l).Perm (a :: l)
  | [] => List.Perm.refl _
  | b :: r => by
    unfold ins
    split
    · exact List.Perm.refl _
    · exact ((ins_perm a r).cons b).trans (List.Perm.swap a b r)
theorem isort_perm : ∀ l, (isort l).Perm l
  | [] => List.Perm.refl _
  | a :: r => (ins_perm a (isort r)).trans ((isort_perm r).cons a)
theorem ins_sorted (a : Int) : ∀ l, l.Pairwise (· ≤ ·) → (ins a l).Pairwise (· ≤ ·)
  | [], _ => List.pairwise_singleton _ _
  | b :: r, h => by
    unfold ins
    have h' := List.pairwise_cons.mp h
    split
    · rename_i hab
      refine List.pairwise_cons.mpr ⟨fun x hx => ?_, h⟩
      rcases List.mem_cons.mp hx with z | z
      · omega
      · have := h'.1 x z; omega
    · rename_i hab
      refine List.pairwise_cons.mpr ⟨fun x hx => ?_, ins_sorted a r h'.2⟩
      rcases List.mem_cons.mp ((ins_perm a r).mem_iff.mp hx) with z | z
      · omega
      · exact h'.1 x z
theorem isort_sorted : ∀ l, (isort l).Pairwise (· ≤ ·)
  | [] => List.Pairwise.nil
  | a :: r => ins_sorted a _ (isort_sorted r)
theorem sorted_unique : ∀ {l m : List Int}, l.Perm m → l.Pairwise (· ≤ ·) → m.Pairwise (· ≤ ·) → l = m
  | [], m, p, _, _ => (List.nil_perm.mp p).symm
  | a :: l, [], p, _, _ => absurd p.length_eq (by simp)
  | a :: l, b :: m, p, h, h' => by
    have h1 := List.pairwise_cons.mp h
    have h2 := List.pairwise_cons.mp h'
    have e : a = b := by
      have a1 : a ∈ b :: m := p.mem_iff.mp List.mem_cons_self
      have b1 : b ∈ a :: l := p.mem_iff.mpr List.mem_cons_self
      rcases List.mem_cons.mp a1 with z | z
      · exact z
      · rcases List.mem_cons.mp b1 with w | w
        · exact w.symm
        · have x1 := h1.1 b w; have x2 := h2.1 a z; omega
    subst e
    rw [sorted_unique (p.cons_inv) h1.2 h2.2]
theorem isort_eq {l m : List Int} (p : m.Perm l) (s : m.Pairwise (· ≤ ·)) : m = isort l := sorted_unique (p.trans (isort_perm l).symm) s (isort_sorted l)

theorem idxD_is {dx dy d : D} (h : idxD dx dy = some d) : ∃ (ns : List Int) (k : Int), (dx = .tuple (ns.map PyData.int) ∨ dx = .list (ns.map PyData.int)) ∧ dy = .int k ∧ k ∈ ns ∧ d = .int (ns.idxOf k : Nat) := by
  have fin : ∀ (ds : List D) (k : Int), ((asInts ds).bind fun ns => if k ∈ ns then some (PyData.int (ns.idxOf k : Nat)) else none) = some d → ∃ ns : List Int, ds = ns.map PyData.int ∧ k ∈ ns ∧ d = .int (ns.idxOf k : Nat) := fun ds k e => by
    cases ei : asInts ds with
    | none => rw [ei] at e; cases e
    | some ns =>
      rw [ei] at e
      have e' : (if k ∈ ns then some (PyData.int (ns.idxOf k : Nat)) else none) = some d := e
      split at e'
      · rename_i hk
        cases e'
        exact ⟨ns, asInts_eq ei, hk, rfl⟩
      · cases e'
  unfold idxD at h
  split at h
  · obtain ⟨ns, rfl, h2, h3⟩ := fin _ _ h
    exact ⟨ns, _, .inl rfl, rfl, h2, h3⟩
  · obtain ⟨ns, rfl, h2, h3⟩ := fin _ _ h
    exact ⟨ns, _, .inr rfl, rfl, h2, h3⟩
  · cases h
def isNoneD : D → D → Option D
  | x, .none => some (.bool (isNone x))
  | _, _ => none
def notNoneD : D → D → Option D
  | x, .none => some (.bool (!isNone x))
  | _, _ => none

section
variable {X : Cx} {n m : Nat} {e a b c : Expr} {f fa fb fc : EvE} {pos p p2 apos cpos : Pos} {x : Str}

/-! ### isinstance -/
theorem Dat.ty {K : PySem.W.Frag} {H : Hp} {v : V} {d : D} (h : Dat H v d) : TyX K H v (.type (tyName d)) := by
  cases h with
  | non => exact .base .non
  | bl b => exact .base (.bl b)
  | int i => exact .base (.int i)
  | str x => exact .base (.str x)
  | tup h _ _ => exact .fTuple h
  | lst h _ => exact .base (.lst h)
  | dK h _ _ => exact .base (.dK h)
theorem kit_all (k : Kd) (t : String) (ht : t ∈ ["NoneType", "bool", "int", "str", "list", "tuple", "dict"]) : kitB t (kdName k) = some (match k with
    | .int => t == "int" || t == "bool" | .bool => t == "bool" | .str => t == "str" | .tuple => t == "tuple" | .list => t == "list" | .dict => t == "dict") := by
  simp only [List.mem_cons, List.not_mem_nil, or_false] at ht
  rcases ht with rfl | rfl | rfl | rfl | rfl | rfl | rfl <;> cases k <;> decide +kernel
theorem kit_is (k : Kd) (d : D) : kitB (tyName d) (kdName k) = some (isK k d) := by
  rw [kit_all k (tyName d) (by cases d <;> simp [tyName])]
  cases d <;> cases k <;> rfl
theorem se_isi {k : Kd} {y : Str} (hg : Gl X x) (hm : X.mg x = none) (hv : bootBuiltins x = some (.builtin "isinstance")) (ha : SE X m a fa) (hg2 : Gl X y) (hm2 : X.mg y = none) (hv2 : bootBuiltins y = some (.type (kdName k)))
    (hn : x ≠ "__name__" := by decide) (hdb : (x == ("__debug__" : Str)) = false := by decide) (hn2 : y ≠ "__name__" := by decide) (hdb2 : (y == ("__debug__" : Str)) = false := by decide)
    (he : starEach [a, .Name y p2] X.env = (false, eval a X.env) :: starEach [.Name y p2] X.env := by rfl) : SE X n (.Call (.Name x p) [a, .Name y p2] [] pos) (un (isiD k) fa) :=
  ⟨peMono (pe_callB call_isi hg hm hv (pa_cons ha.pe (pa_cons (pe_bltn (v := .ty (kdName k)) hg2 hm2 hv2 rfl hn2 hdb2) pa_nil) he) hn hdb he rfl) fun σ H Q ⟨g, G, ss, s, d, s', R, ef, q⟩ => by
    obtain ⟨dx, s1, e1, ef⟩ := bnd_inv ef
    obtain ⟨e3, e4⟩ := lft_inv ef
    subst e4
    cases e3
    refine ⟨g, G, ss, s, dx, s', R, e1, fun v G1 H1 R1 A1 w1 => ?_⟩
    exact ⟨v, _, _, _, _, rfl, .ty _, (w1.now R1).ty, kit_ty (kit_is k dx), q _ G1 H1 R1 A1 (.of (.bl _) n)⟩⟩

/-! ### index, count -/
theorem se_idx {es : List Expr} (ho : SE X 1 a fa) (hb : SE X m b fb) (hbase : attributeBase a "index" X.env (eval a X.env) = eval a X.env := by rfl)
    (hfew : ((backTo cpos (starEach [b] X.env)).all (fun x => !x.1) && (backToKw cpos (keywordEach [] X.env)).all (fun x => x.1.isSome) && decide ([b].length + ([] : List Keyword).length + (if ([] : List Keyword).isEmpty then 0 else 1) < 30)) = true := by rfl)
    (hline : (apos.endLine == cpos.line) = true := by rfl) (hs : starEach [b] X.env = (false, eval b X.env) :: starEach [] X.env := by rfl) :
    SE X n (.Call (.Attribute a "index" apos) [b] [] cpos) (bin idxD fa fb) := by
  refine ⟨⟨fun pins s σ H Q I ⟨g, G, ss, sr, d, s', R, ef, q⟩ => ?_⟩⟩
  obtain ⟨dx, s1, e1, ef⟩ := bnd_inv ef
  obtain ⟨dy, s2, e2, ef⟩ := bnd_inv ef
  obtain ⟨e3, e4⟩ := lft_inv ef
  subst e4
  refine wpAny_Call_method_late hbase hfew hline rfl (thn (ho.pe.run pins s σ H (fun x H1 => ∃ G1, RelE g G1 H1 s1 ∧ Adv g.sa G H G1 H1 ∧ View 1 G1 (msk g.sa H1) x dx) I ⟨g, G, ss, sr, dx, s1, R, e1, fun v G1 H1 R1 A1 w1 => ⟨G1, R1, A1, w1⟩⟩) fun v t1 ⟨y, H1, I1, r1, G1, R1, A1, w1⟩ => ?_)
  have hA := (pa_cons hb.pe pa_nil hs).run cpos pins t1 σ H1 (fun vs H2 => ∃ z G2, vs = [z] ∧ RelE g G2 H2 s' ∧ Adv g.sa G1 H1 G2 H2 ∧ View m G2 (msk g.sa H2) z dy) I1 ⟨g, G1, ss, s1, dy, s', R.ext A1 R1, e2, fun z G2 H2 R2 A2 w2 => ⟨z, G2, rfl, R2, A2, w2⟩⟩
  rw [hs] at hA
  obtain ⟨ns, k, hdx, rfl, hk, rfl⟩ := idxD_is e3
  have W1 := w1.now R1
  rcases hdx with rfl | rfl
  · cases id W1 with
    | tup h hno l =>
      rename_i pa oo vs
      cases r1
      obtain ⟨hoo, _, its, rv, ht⟩ := I1.hok pa _ h
      refine ⟨"tuple", "tuple.index", PySem.F.plainAttrs_tuple, PySem.F.slot_tuple_index, PySem.F.type_tuple_index, ht.typeIs, fun a' e => by cases e; exact ⟨oo, hoo, hno⟩, ?_⟩
      rw [hs]
      refine Calls.callWith_builtin (by rfl) (Calls.evalArgs_plain ?_)
      refine thn hA fun us t2 ⟨zs, H2, I2, r2, z, G2, ez, R2, A2, w2⟩ => ?_
      subst ez
      obtain ⟨u, rfl, ru⟩ := vals1 r2
      rw [dInt R2.gh w2] at ru
      obtain ⟨tk, rfl⟩ := ru
      obtain ⟨pb, vs2, ep, hq, l2⟩ := sq_tuple (K := X.K) ((w1.mono A2.g A2.h).now R2)
      cases ep
      rw [l2.of_ints] at hq
      obtain ⟨its2, rv2, ht2, _⟩ := I2.tuple hq
      exact SeqAt.tuple_index_ints (show _ from ht2) (by simpa using rv2.ints) hk ⟨.int (ns.idxOf k : Nat), H2, I2.tok _, ⟨_, rfl⟩, q _ G2 H2 R2 (A1.trans R1 A2 ⟨_, R2⟩) (.of (.int _) n)⟩
  · cases id W1 with
    | lst h l =>
      rename_i pa vs
      cases r1
      obtain ⟨its, rv, pl, _⟩ := I1.list (.inl (.inl h))
      refine ⟨"list", "list.index", PySem.F.plainAttrs_list, PySem.F.slot_list_index, PySem.F.type_list_index, pl.isList.typeIs, fun a' e => by cases e; obtain ⟨o, n', e', _, hd, _⟩ := pl; exact ⟨o, e', hd⟩, ?_⟩
      rw [hs]
      refine Calls.callWith_builtin (by rfl) (Calls.evalArgs_plain ?_)
      refine thn hA fun us t2 ⟨zs, H2, I2, r2, z, G2, ez, R2, A2, w2⟩ => ?_
      subst ez
      obtain ⟨u, rfl, ru⟩ := vals1 r2
      rw [dInt R2.gh w2] at ru
      obtain ⟨tk, rfl⟩ := ru
      obtain ⟨pb, vs2, ep, hq, l2, _⟩ := sq_list (K := X.K) ((w1.mono A2.g A2.h).now R2)
      cases ep
      rw [l2.of_ints] at hq
      obtain ⟨its2, rv2, ht2, hz2⟩ := I2.list hq
      exact SeqAt.list_index_ints ht2.isList (by simpa using rv2.ints) (by simpa using hz2) hk ⟨.int (ns.idxOf k : Nat), H2, I2.tok _, ⟨_, rfl⟩, q _ G2 H2 R2 (A1.trans R1 A2 ⟨_, R2⟩) (.of (.int _) n)⟩

/-! ### in -/
theorem op_inT (hu : X.A.units + 65 < cLine) : OpR X (compareOp .In) (fun x y H Q => ∃ d ds, Dp X.K H x d ∧ Dp X.K H y (.tuple ds) ∧ SeqAt.shaped d = true ∧ SeqAt.shaped (.tuple ds) = true ∧ Q (.bl (ds.any fun z => PyData.eqv z d)) H) := by
  intro pins s σ H x y v u Q I rx ry ⟨d, ds, hd, he, sd, se, q⟩
  obtain ⟨as, r1⟩ := Dp.reads I d x v hd rx
  obtain ⟨bs, r2⟩ := Dp.reads I (.tuple ds) y u he ry
  exact SeqAt.in_tuple_reads r2 r1 (SeqAt.canLay_of_shaped se) (SeqAt.canLay_of_shaped sd) (room_in_shaped sd hu) ⟨.bl _, H, I, rfl, q⟩
theorem op_ninT (hu : X.A.units + 65 < cLine) : OpR X (compareOp .NotIn) (fun x y H Q => ∃ d ds, Dp X.K H x d ∧ Dp X.K H y (.tuple ds) ∧ SeqAt.shaped d = true ∧ SeqAt.shaped (.tuple ds) = true ∧ Q (.bl (!ds.any fun z => PyData.eqv z d)) H) := by
  intro pins s σ H x y v u Q I rx ry ⟨d, ds, hd, he, sd, se, q⟩
  obtain ⟨as, r1⟩ := Dp.reads I d x v hd rx
  obtain ⟨bs, r2⟩ := Dp.reads I (.tuple ds) y u he ry
  exact SeqAt.notIn_tuple_reads r2 r1 (SeqAt.canLay_of_shaped se) (SeqAt.canLay_of_shaped sd) (room_in_shaped sd hu) ⟨.bl _, H, I, rfl, q⟩
theorem op_inL (hu : X.A.units + 65 < cLine) : OpR X (compareOp .In) (fun x y H Q => ∃ d ds, Dp X.K H x d ∧ Dp X.K H y (.list ds) ∧ SeqAt.shaped d = true ∧ SeqAt.shaped (.list ds) = true ∧ Q (.bl (ds.any fun z => PyData.eqv z d)) H) := by
  intro pins s σ H x y v u Q I rx ry ⟨d, ds, hd, he, sd, se, q⟩
  obtain ⟨as, r1⟩ := Dp.reads I d x v hd rx
  obtain ⟨bs, r2⟩ := Dp.reads I (.list ds) y u he ry
  exact SeqAt.in_list_reads r2 r1 (SeqAt.canLay_of_shaped se) (SeqAt.canLay_of_shaped sd) (room_in_shaped sd hu) ⟨.bl _, H, I, rfl, q⟩
theorem op_ninL (hu : X.A.units + 65 < cLine) : OpR X (compareOp .NotIn) (fun x y H Q => ∃ d ds, Dp X.K H x d ∧ Dp X.K H y (.list ds) ∧ SeqAt.shaped d = true ∧ SeqAt.shaped (.list ds) = true ∧ Q (.bl (!ds.any fun z => PyData.eqv z d)) H) := by
  intro pins s σ H x y v u Q I rx ry ⟨d, ds, hd, he, sd, se, q⟩
  obtain ⟨as, r1⟩ := Dp.reads I d x v hd rx
  obtain ⟨bs, r2⟩ := Dp.reads I (.list ds) y u he ry
  exact SeqAt.notIn_list_reads r2 r1 (SeqAt.canLay_of_shaped se) (SeqAt.canLay_of_shaped sd) (room_in_shaped sd hu) ⟨.bl _, H, I, rfl, q⟩
theorem o_in (hu : X.A.units + 65 < cLine) : Op2 X m (compareOp .In) inS := by
  refine ⟨_, (op_inL hu).or (op_inT hu), fun g G H s x y dx dy d Q R wx wy e q => ?_⟩
  unfold inS at e
  split at e
  · split at e
    · rename_i ds c
      rw [Bool.and_eq_true] at c
      cases e
      exact .inl ⟨dx, ds, wx.dp R.gh c.1, wy.dp R.gh c.2, c.1, c.2, q _ G H R (Adv.refl _ _ _) (.bl _)⟩
    · cases e
  · split at e
    · rename_i ds c
      rw [Bool.and_eq_true] at c
      cases e
      exact .inr ⟨dx, ds, wx.dp R.gh c.1, wy.dp R.gh c.2, c.1, c.2, q _ G H R (Adv.refl _ _ _) (.bl _)⟩
    · cases e
  · cases e
theorem o_nin (hu : X.A.units + 65 < cLine) : Op2 X m (compareOp .NotIn) ninS := by
  refine ⟨_, (op_ninL hu).or (op_ninT hu), fun g G H s x y dx dy d Q R wx wy e q => ?_⟩
  unfold ninS at e
  split at e
  · split at e
    · rename_i ds c
      rw [Bool.and_eq_true] at c
      cases e
      exact .inl ⟨dx, ds, wx.dp R.gh c.1, wy.dp R.gh c.2, c.1, c.2, q _ G H R (Adv.refl _ _ _) (.bl _)⟩
    · cases e
  · split at e
    · rename_i ds c
      rw [Bool.and_eq_true] at c
      cases e
      exact .inr ⟨dx, ds, wx.dp R.gh c.1, wy.dp R.gh c.2, c.1, c.2, q _ G H R (Adv.refl _ _ _) (.bl _)⟩
    · cases e
  · cases e

/-! ### is None -/
theorem isNone_dat {H : Hp} {v : V} {d : D} (h : Dat H v d) : decide (v = .non) = isNone d := by cases h <;> rfl
theorem o_isN : Op2 X m (compareOp .Is) isNoneD := by
  refine ⟨_, op_isN, fun g G H s x y dx dy d Q R wx wy e q => ?_⟩
  unfold isNoneD at e
  split at e
  · cases e
    have w := wy.now R
    cases w
    refine ⟨rfl, ?_⟩
    rw [isNone_dat (wx.now R)]
    exact q _ G H R (Adv.refl _ _ _) (.bl _)
  · cases e
theorem o_notN : Op2 X m (compareOp .IsNot) notNoneD := by
  refine ⟨_, op_notN, fun g G H s x y dx dy d Q R wx wy e q => ?_⟩
  unfold notNoneD at e
  split at e
  · cases e
    have w := wy.now R
    cases w
    refine ⟨rfl, ?_⟩
    rw [isNone_dat (wx.now R)]
    exact q _ G H R (Adv.refl _ _ _) (.bl _)
  · cases e

/-! ### sorted, whole numbers -/
end
end Ev
end

section
set_option linter.all false
set_option Elab.async false
set_option maxRecDepth 100000
/-! zip(.., strict=True): its turns, its cells. -/
namespace Ev
open PySem PyProof.Rows
abbrev ZipS (h : Heap) (z TI TO : Addr) (f0 : Value) : Prop :=
  h.get? z = some { cls := .type "zip", dict := none, data := .fields #[f0, .bool false, .bool true, .ref TI, .ref TO], slots := #[] }
section
variable {prog : Program} {w : World} {A : Around} {E : Value → Shared → Prop} {s : Shared}
/-- one draw -/
theorem drawS_some {it : Addr} {fp : List Addr} {n i : Nat} {P : Nat → Value → Prop} {St : Nat → Heap → Prop} {Q : Option Value → Shared → Prop} (D : Draws prog w A it fp n P St) (hi : i < n) (st : St i s.heap)
    (q : ∀ x h' tk, P i x → St (i + 1) h' → Heap.SameBut it s.heap h' → Q (some x) { s with heap := h', toks := tk }) : wpAny (model prog w) A (Builtin.SmallTypes.nextOrEnd (.ref it)) Q E s := by
  unfold Builtin.SmallTypes.nextOrEnd
  exact wpAny_bind (wpAny_attempt (D.item i s _ _ hi st fun x h' tk a b c => wpAny_pure (q x h' tk a b c)))
theorem drawS_none {it : Addr} {fp : List Addr} {n : Nat} {P : Nat → Value → Prop} {St : Nat → Heap → Prop} {Q : Option Value → Shared → Prop} (D : Draws prog w A it fp n P St) (st : St n s.heap)
    (q : ∀ h', Heap.ExtBut it s.heap h' → Q none { s with heap := h' }) : wpAny (model prog w) A (Builtin.SmallTypes.nextOrEnd (.ref it)) Q E s := by
  unfold Builtin.SmallTypes.nextOrEnd
  refine wpAny_bind (wpAny_attempt (D.done s _ _ st fun h' e x ho => ?_))
  obtain ⟨o, ho, hc⟩ := ho
  exact wpAny_bind (wpAny_isInstance (T := "StopIteration") (b := true) ⟨o, ho, hc⟩ isSubtype_stop (wpAny_pure (q h' x)))
variable {z TI TO i1 i2 : Addr} {fp1 fp2 : List Addr} {n i : Nat} {P1 P2 : Nat → Value → Prop} {St1 St2 : Nat → Heap → Prop} {a1 a2 : Value}
theorem stopIt {Q : Fin → Shared → Prop} (hh : A.handled = none) (hE : ∀ h' e, (∀ b o, s.heap.get? b = some o → h'.get? b = some o) → (∃ o, h'.get? e = some o ∧ o.cls = .type "StopIteration") → E (.ref e) { s with heap := h' }) :
    wpAny (model prog w) A (Builtin.SmallTypes.stopIteration : Sem Fin) Q E s := by
  show wpAny _ _ (newExc (.type "StopIteration") [] >>= _) _ _ _
  refine wpAny_bind ?_
  simp only [newExc, newTuple]
  refine wpAny_bind (wpAny_newObj_type ?_ (by size_fits))
  refine wpAny_bind (m := firstArgMember _ _) (wpAny_of_eq (a := Value.none) (by first | rfl | (simp only [firstArgMember]; rfl)) ?_)
  refine wpAny_newObj_type ?_ (by size_fits)
  simp only [raiseNew]
  refine wpAny_bind (wpAny_handled ?_)
  rw [hh]
  refine wpAny_bind (wpAny_pure (wpAny_throw ?_))
  exact hE _ _ (fun b o e => Heap.get?_push_of_some _ (Heap.get?_push_of_some _ e)) ⟨_, Heap.get?_push_size _ rfl, rfl⟩
theorem zipS_item {Q : Value → Shared → Prop} (S : ZipSep2 z TI TO i1 i2 fp1 fp2) (D1 : Draws prog w A i1 fp1 n P1 St1) (D2 : Draws prog w A i2 fp2 n P2 St2)
    (hz : ZipS s.heap z TI TO .none) (hTI : IsTupOf2 s.heap TI (.ref i1) (.ref i2)) (hTO : IsTupOf2 s.heap TO a1 a2) (st1 : St1 i s.heap) (st2 : St2 i s.heap) (hi : i < n)
    (hQ : ∀ x1 x2 h' tk, P1 i x1 → P2 i x2 → ZipS h' z TI TO (rawInt s.heap.objs.size) → IsTupOf2 h' TO x1 x2 → St1 (i + 1) h' → St2 (i + 1) h' → IsTupOf2 h' s.heap.objs.size x1 x2 →
      (∀ c o, c ≠ z → c ≠ TO → c ≠ i1 → c ≠ i2 → s.heap.get? c = some o → h'.get? c = some o) → Q (.ref s.heap.objs.size) { s with heap := h', toks := tk }) :
    wpAny (model prog w) A (Builtin.«zip.__next__» ⟨[.ref z], []⟩) (fun fin s' => ∃ v, fin = .done (.ret v) ∧ Q v s') E s := by
  obtain ⟨hp, g, d, tk0, os⟩ := s
  show wpAny _ _ (field (.ref z) 2 >>= _) _ _ _
  refine wpAny_bind (wpAny_field hz rfl (x := .bool true) rfl ?_)
  show wpAny _ _ (field (.ref z) 3 >>= _) _ _ _
  refine wpAny_bind (wpAny_field hz rfl (x := .ref TI) rfl (wpAny_bind (wpAny_seqItems hTI rfl ?_)))
  show wpAny _ _ (Builtin.SmallTypes.ownedTupleIsFree (.ref z) >>= _) _ _ _
  refine wpAny_bind ?_
  unfold Builtin.SmallTypes.ownedTupleIsFree
  refine wpAny_bind (wpAny_field hz rfl (x := .none) rfl (wpAny_pure ?_))
  simp only [if_true]
  refine wpAny_bind (wpAny_rule (wpAny_bind (wpAny_field hz rfl (x := .ref TO) rfl (wpAny_bind (wpAny_setField_rec hz (by simp) fun g0 hz0 hs0 => ?_)))))
  replace hz0 : ZipS g0 z TI TO .ellipsis := hz0
  replace hs0 : Heap.SameBut z hp g0 := hs0
  refine wpAny_bind ?_
  simp only [List.zipIdx_cons, List.zipIdx_nil, List.forIn_cons, List.forIn_nil]
  refine wpAny_bind (wpAny_bind (wpAny_onRaise ?_))
  show wpAny _ _ (Builtin.SmallTypes.nextOrEnd (.ref i1)) _ _ ⟨g0, g, d, tk0, os⟩
  refine drawS_some D1 hi (D1.over st1 hs0 S.zf1) fun x1 p1 tk1 hx1 sn1 hp1 => ?_
  replace hp1 : Heap.SameBut i1 g0 p1 := hp1
  have u1 : IsTupOf2 p1 TO a1 a2 := hp1.extBut _ _ S.Ti1 (hs0.extBut _ _ S.TOz hTO)
  refine wpAny_bind (wpAny_seqItems (s := ⟨p1, g, d, tk1, os⟩) u1 rfl (wpAny_bind (updateSeq_IsTupOf2 (s := ⟨p1, g, d, tk1, os⟩) u1 fun g1 hT1 hs1 => ?_)))
  replace hT1 : IsTupOf2 g1 TO x1 a2 := hT1
  replace hs1 : Heap.SameBut TO p1 g1 := hs1
  refine wpAny_bind (wpAny_letGo (wpAny_pure ?_))
  refine wpAny_bind (wpAny_bind (wpAny_onRaise ?_))
  show wpAny _ _ (Builtin.SmallTypes.nextOrEnd (.ref i2)) _ _ ⟨g1, g, d, tk1, os⟩
  refine drawS_some D2 hi (D2.over (D2.over (D2.over st2 hs0 S.zf2) hp1 S.sep1_2) hs1 S.Tf2) fun x2 p2 tk2 hx2 sn2 hp2 => ?_
  replace hp2 : Heap.SameBut i2 g1 p2 := hp2
  have u2 : IsTupOf2 p2 TO x1 a2 := hp2.extBut _ _ S.Ti2 hT1
  refine wpAny_bind (wpAny_seqItems (s := ⟨p2, g, d, tk2, os⟩) u2 rfl (wpAny_bind (updateSeq_IsTupOf2 (s := ⟨p2, g, d, tk2, os⟩) u2 fun g2 hT2 hs2 => ?_)))
  replace hT2 : IsTupOf2 g2 TO x1 x2 := hT2
  replace hs2 : Heap.SameBut TO p2 g2 := hs2
  refine wpAny_bind (wpAny_letGo (wpAny_pure (wpAny_pure ?_)))
  refine wpAny_bind (wpAny_seqItems (s := ⟨g2, g, d, tk2, os⟩) hT2 rfl (wpAny_bind (wpAny_newTuple ?_)))
  have sz : g2.objs.size = hp.objs.size := by rw [hs2.1, hp2.1, hs1.1, hp1.1, hs0.1]
  have zz : ZipS g2 z TI TO .ellipsis := hs2.extBut _ _ S.TOz.symm (hp2.extBut _ _ S.zi2 (hs1.extBut _ _ S.TOz.symm (hp1.extBut _ _ S.zi1 hz0)))
  have kk : ∀ c o, c ≠ z → c ≠ TO → c ≠ i1 → c ≠ i2 → hp.get? c = some o → g2.get? c = some o := fun c o cz cT c1 c2 e =>
    hs2.extBut _ _ cT (hp2.extBut _ _ c2 (hs1.extBut _ _ cT (hp1.extBut _ _ c1 (hs0.extBut _ _ cz e))))
  have j1 : St1 (i + 1) g2 := D1.over (D1.over (D1.over sn1 hs1 S.Tf1) hp2 S.sep2_1) hs2 S.Tf1
  have j2 : St2 (i + 1) g2 := D2.over sn2 hs2 S.Tf2
  have zl : z < g2.objs.size := Heap.lt_size zz
  show wpAny _ _ (Builtin.SmallTypes.ownedTupleHandOut (.ref z) (.ref g2.objs.size) >>= _) _ _ ⟨g2.push { cls := .type "tuple", data := .seq #[x1, x2] }, g, d, tk2, os⟩
  refine wpAny_bind ?_
  unfold Builtin.SmallTypes.ownedTupleHandOut
  have z6 : ZipS (g2.push { cls := .type "tuple", data := .seq #[x1, x2] }) z TI TO .ellipsis := Heap.get?_push_of_some _ zz
  refine wpAny_bind (wpAny_setField_rec z6 (by simp) fun h7 hz7 hs7 => ?_)
  replace hz7 : ZipS h7 z TI TO (rawInt g2.objs.size) := hz7
  refine wpAny_setField_rec hz7 (by simp) fun h8 hz8 hs8 => ?_
  replace hz8 : ZipS h8 z TI TO (rawInt g2.objs.size) := hz8
  replace hs7 : Heap.SameBut z (g2.push { cls := .type "tuple", data := .seq #[x1, x2] }) h7 := hs7
  replace hs8 : Heap.SameBut z h7 h8 := hs8
  have up : ∀ c o, c ≠ z → g2.get? c = some o → h8.get? c = some o := fun c o c1 e => hs8.extBut _ _ c1 (hs7.extBut _ _ c1 (Heap.get?_push_of_some _ e))
  have t8 : IsTupOf2 h8 g2.objs.size x1 x2 := hs8.extBut _ _ (Nat.ne_of_gt zl) (hs7.extBut _ _ (Nat.ne_of_gt zl) (Heap.get?_push_size _ rfl))
  rw [sz] at hz8 t8
  refine wpAny_pure ⟨_, rfl, ?_⟩
  show Q (.ref g2.objs.size) ⟨h8, g, d, tk2, os⟩
  rw [sz]
  exact hQ x1 x2 h8 tk2 hx1 hx2 hz8 (up _ _ S.TOz hT2) (D1.frame _ _ _ j1 fun b hb o e => up b o (fun q => S.zf1 (q ▸ hb)) e) (D2.frame _ _ _ j2 fun b hb o e => up b o (fun q => S.zf2 (q ▸ hb)) e) t8 fun c o cz cT c1 c2 e => up c o cz (kk c o cz cT c1 c2 e)
theorem zipS_end {Q : Fin → Shared → Prop} (hh : A.handled = none) (S : ZipSep2 z TI TO i1 i2 fp1 fp2) (D1 : Draws prog w A i1 fp1 n P1 St1) (D2 : Draws prog w A i2 fp2 n P2 St2)
    (hz : ZipS s.heap z TI TO .none) (hTI : IsTupOf2 s.heap TI (.ref i1) (.ref i2)) (st1 : St1 n s.heap) (st2 : St2 n s.heap)
    (hE : ∀ h' e, (∀ c o, c ≠ z → c ≠ i1 → c ≠ i2 → s.heap.get? c = some o → h'.get? c = some o) → (∃ o, h'.get? e = some o ∧ o.cls = .type "StopIteration") → E (.ref e) { s with heap := h' }) :
    wpAny (model prog w) A (Builtin.«zip.__next__» ⟨[.ref z], []⟩) Q E s := by
  obtain ⟨hp, g, d, tk0, os⟩ := s
  show wpAny _ _ (field (.ref z) 2 >>= _) _ _ _
  refine wpAny_bind (wpAny_field hz rfl (x := .bool true) rfl ?_)
  show wpAny _ _ (field (.ref z) 3 >>= _) _ _ _
  refine wpAny_bind (wpAny_field hz rfl (x := .ref TI) rfl (wpAny_bind (wpAny_seqItems hTI rfl ?_)))
  show wpAny _ _ (Builtin.SmallTypes.ownedTupleIsFree (.ref z) >>= _) _ _ _
  refine wpAny_bind ?_
  unfold Builtin.SmallTypes.ownedTupleIsFree
  refine wpAny_bind (wpAny_field hz rfl (x := .none) rfl (wpAny_pure ?_))
  simp only [if_true]
  refine wpAny_bind (wpAny_rule (wpAny_bind (wpAny_field hz rfl (x := .ref TO) rfl (wpAny_bind (wpAny_setField_rec hz (by simp) fun g0 hz0 hs0 => ?_)))))
  replace hz0 : ZipS g0 z TI TO .ellipsis := hz0
  replace hs0 : Heap.SameBut z hp g0 := hs0
  refine wpAny_bind ?_
  simp only [List.zipIdx_cons, List.zipIdx_nil, List.forIn_cons, List.forIn_nil]
  refine wpAny_bind (wpAny_bind (wpAny_onRaise ?_))
  show wpAny _ _ (Builtin.SmallTypes.nextOrEnd (.ref i1)) _ _ ⟨g0, g, d, tk0, os⟩
  refine drawS_none D1 (D1.over st1 hs0 S.zf1) fun p1 hp1 => ?_
  replace hp1 : Heap.ExtBut i1 g0 p1 := hp1
  have z1 : ZipS p1 z TI TO .ellipsis := hp1 _ _ S.zi1 hz0
  refine wpAny_bind (wpAny_setField_rec (s := ⟨p1, g, d, tk0, os⟩) z1 (by simp) fun p2 hz2 hs2 => ?_)
  replace hs2 : Heap.SameBut z p1 p2 := hs2
  have s2 : St2 n p2 := D2.frame n _ _ st2 fun b hb o e => hs2.extBut _ _ (fun q => S.zf2 (q ▸ hb)) (hp1 _ _ (fun q => S.sep1_2 (q ▸ hb)) (hs0.extBut _ _ (fun q => S.zf2 (q ▸ hb)) e))
  refine wpAny_bind ?_
  refine wpAny_bind ?_
  simp only [List.drop_succ_cons, List.drop_zero, List.zipIdx_cons, List.zipIdx_nil, List.forIn_cons, List.forIn_nil]
  refine wpAny_bind ?_
  show wpAny _ _ (Builtin.SmallTypes.nextOrEnd (.ref i2) >>= _) _ _ ⟨p2, g, d, tk0, os⟩
  refine wpAny_bind (drawS_none (s := ⟨p2, g, d, tk0, os⟩) D2 s2 fun p3 hp3 => ?_)
  replace hp3 : Heap.ExtBut i2 p2 p3 := hp3
  refine wpAny_pure (wpAny_pure (wpAny_bind (wpAny_rule (stopIt (s := ⟨p3, g, d, tk0, os⟩) hh fun h4 e k4 he => ?_))))
  exact hE h4 e (fun c o cz c1 c2 x => k4 c o (hp3 _ _ c2 (hs2.extBut _ _ cz (hp1 _ _ c1 (hs0.extBut _ _ cz x))))) he
/-- the turns of zip(.., strict=True) over two of one length -/
theorem walksZipS (hh : A.handled = none) (S : ZipSep2 z TI TO i1 i2 fp1 fp2) (D1 : Draws prog w A.in1 i1 fp1 n P1 St1) (D2 : Draws prog w A.in1 i2 fp2 n P2 St2) :
    WalksT prog w A z (z :: TI :: TO :: (fp1 ++ fp2)) [z, TO, i1, i2] n
      (fun i vals => ∃ x1 x2, P1 i x1 ∧ P2 i x2 ∧ vals = #[x1, x2])
      (fun i h => ZipS h z TI TO .none ∧ IsTupOf2 h TI (.ref i1) (.ref i2) ∧ (∃ a1 a2, IsTupOf2 h TO a1 a2) ∧ St1 i h ∧ St2 i h)
      (fun i T h => ZipS h z TI TO (rawInt T) ∧ IsTupOf2 h TI (.ref i1) (.ref i2) ∧ (∃ a1 a2, IsTupOf2 h TO a1 a2) ∧ St1 (i + 1) h ∧ St2 (i + 1) h ∧ T ≠ z ∧ T ≠ TO ∧ T ≠ i1 ∧ T ≠ i2) := by
  have m1 : ∀ b, b ∈ fp1 → b ∈ z :: TI :: TO :: (fp1 ++ fp2) := fun b hb => by simp [hb]
  have m2 : ∀ b, b ∈ fp2 → b ∈ z :: TI :: TO :: (fp1 ++ fp2) := fun b hb => by simp [hb]
  refine ⟨fun c hc => ?_, fun i h h' hst hk => ?_, fun i s Q E hi hst hQ => ?_, fun elts k pos i T s Q E hm hQ => ?_, fun i T h hm hT => ?_, fun s Q E hst hQ => ?_, fun i s Q E hst hQ => ?_⟩
  · have e : c = z ∨ c = TO ∨ c = i1 ∨ c = i2 := by simpa using hc
    rcases e with e | e | e | e
    · rw [e]; simp
    · rw [e]; simp
    · rw [e]; exact m1 _ S.mem1
    · rw [e]; exact m2 _ S.mem2
  · obtain ⟨h1, h2, ⟨a1, a2, h3⟩, h4, h5⟩ := hst
    exact ⟨hk z (by simp) _ h1, hk TI (by simp) _ h2, ⟨a1, a2, hk TO (by simp) _ h3⟩, D1.frame _ _ _ h4 fun b hb o e => hk b (m1 b hb) o e, D2.frame _ _ _ h5 fun b hb o e => hk b (m2 b hb) o e⟩
  · obtain ⟨h1, h2, ⟨a1, a2, h3⟩, h4, h5⟩ := hst
    have lt : ∀ {c o}, s.heap.get? c = some o → s.heap.objs.size ≠ c := fun e => Nat.ne_of_gt (Heap.lt_size e)
    have l1 : s.heap.objs.size ≠ i1 := by obtain ⟨_, e⟩ := D1.live _ _ h4; exact lt e
    have l2 : s.heap.objs.size ≠ i2 := by obtain ⟨_, e⟩ := D2.live _ _ h5; exact lt e
    have hT : s.TypeIs (.ref z) "zip" := ⟨_, h1, rfl⟩
    unfold pyNext
    refine wpAny_bind (wpAny_attempt (wpAny_callSpecial?_slot (name := Str.ofString "__next__") hT F.slot_zip_next (wpAny_call_entry F.slot_zip_next hT F.entry_zip_next
      (zipS_item S D1 D2 h1 h2 h3 h4 h5 hi fun x1 x2 h' tk y1 y2 b1 b2 d1 d2 b5 hk => wpAny_pure ?_) (F.args_zip_next_1 _))))
    exact hQ s.heap.objs.size #[x1, x2] h' tk ⟨x1, x2, y1, y2, rfl⟩ (Nat.le_refl _) ⟨_, b5, rfl, _, rfl⟩ ⟨b1, hk _ _ S.TIz S.TITO S.TIi1 S.TIi2 h2, ⟨_, _, b2⟩, d1, d2, lt h1, lt h3, l1, l2⟩
      fun c o hc e => hk c o (fun x => hc (by simp [x])) (fun x => hc (by simp [x])) (fun x => hc (by simp [x])) (fun x => hc (by simp [x])) e
  · obtain ⟨h1, h2, ⟨a1, a2, h3⟩, h4, h5, _⟩ := hm
    unfold letOwnedTupleGo
    refine wpAny_bind (wpAny_load h1 ?_)
    show wpAny _ _ (if (["enumerate", "zip", "dict_itemiterator", "dict_reverseitemiterator", "odict_iterator", "itertools.zip_longest", "itertools.pairwise"].contains "zip" &&
      (#[rawInt T, .bool false, .bool true, .ref TI, .ref TO] : Array Value)[0]? == some (rawInt T)) = true then _ else _) _ _ _
    rw [if_pos (by simp)]
    refine wpAny_bind (wpAny_rule ?_)
    show wpAny _ _ (setField (.ref z) 0 .none) _ _ _
    refine wpAny_setField_rec h1 (by simp) fun h' hz' hs' => hQ h' ⟨hz', hs'.extBut _ _ S.TIz h2, ⟨a1, a2, hs'.extBut _ _ S.TOz h3⟩, D1.over h4 hs' S.zf1, D2.over h5 hs' S.zf2⟩ fun c o hc e => hs'.extBut _ _ (fun x => hc (by simp [x])) e
  · obtain ⟨_, _, _, _, _, tz, tT, t1, t2⟩ := hm
    have e : T = z ∨ T = TO ∨ T = i1 ∨ T = i2 := by simpa using hT
    rcases e with e | e | e | e
    · exact tz e
    · exact tT e
    · exact t1 e
    · exact t2 e
  · obtain ⟨h1, h2, ⟨a1, a2, h3⟩, h4, h5⟩ := hst
    have hT : s.TypeIs (.ref z) "zip" := ⟨_, h1, rfl⟩
    unfold pyNext
    refine wpAny_bind (wpAny_attempt (wpAny_callSpecial?_slot (name := Str.ofString "__next__") hT F.slot_zip_next (wpAny_call_entry F.slot_zip_next hT F.entry_zip_next (zipS_end (A := A.in1) hh S D1 D2 h1 h2 h4 h5 fun h' e hk he => ?_) (F.args_zip_next_1 _))))
    obtain ⟨o, ho, hc⟩ := he
    refine wpAny_bind (wpAny_isInstance (T := "StopIteration") (b := true) ⟨o, ho, hc⟩ isSubtype_stop (wpAny_pure (hQ _ s.toks fun c o hc e => ?_)))
    exact hk c o (fun x => hc (by simp [x])) (fun x => hc (by simp [x])) (fun x => hc (by simp [x])) e
  · have hT : s.TypeIs (.ref z) "zip" := ⟨_, hst.1, rfl⟩
    refine wpAny_pyIter_slot hT F.slot_zip_iter (wpAny_call_entry F.slot_zip_iter hT F.entry_zip_iter ?_ (F.args_zip_iter_1 _))
    show wpAny _ _ (PySem.ret (Value.ref z)) _ _ s
    exact wpAny_pure ⟨_, rfl, "zip", _, hT, F.slot_zip_next.lookup, hQ⟩
end

theorem tyZipS (a b : Value) : checkTypeCall "zip" ⟨[a, b], [(Str.ofString "strict", .bool true)]⟩ = pure () := by kernel_rfl
theorem newZipS (a b : Value) : checkBuiltinCall "zip.__new__" ⟨[.type "zip", a, b], [(Str.ofString "strict", .bool true)]⟩ = pure () := by kernel_rfl
theorem initZipS (obj a b : Value) : argsOk "object.__init__" ⟨[obj, a, b], [(Str.ofString "strict", .bool true)]⟩ := by unfold argsOk; kernel_rfl
abbrev zsZ (h : Heap) (o1 o2 : Obj) : Heap := (gzO2 h o1 o2).push { cls := .type "zip", data := .fields #[.none, .bool false, .bool true, .ref ((h.push o1).push o2).objs.size, .ref (gzT2 h o1 o2).objs.size] }
set_option maxHeartbeats 1000000 in
theorem meetsZipS {v1 v2 : Value} {o1 o2 : Obj} {H1 H2 : Heap → Prop} (B1 : Begins v1 o1 H1) (B2 : Begins v2 o2 H2) :
    Meets (Builtin.«zip.__new__» ⟨[.type "zip", v1, v2], [(Str.ofString "strict", .bool true)]⟩) (fun _ R s => (H1 s.heap ∧ H2 s.heap) ∧
      R (.ok (.ret (.ref (gzO2 s.heap o1 o2).objs.size))) { s with heap := zsZ s.heap o1 o2 }) :=
  .of_wp fun prog w A R s h => by
    obtain ⟨hp, g, d, tk, os⟩ := s; obtain ⟨⟨h1, h2⟩, h⟩ := h
    have hsub := sub_zip
    have q1 : ∀ {A' : Around} {E : Value → Shared → Prop} {Q : Value → Shared → Prop}, Q (.ref hp.objs.size) ⟨(hp.push o1), g, d, tk, os⟩ → wpAny (model prog w) A' (pyIter v1) Q E ⟨hp, g, d, tk, os⟩ :=
      fun q => B1.iter prog w _ _ ⟨hp, g, d, tk, os⟩ _ (B1.keeps _ _ h1 fun b o' e => e) q
    have q2 : ∀ {A' : Around} {E : Value → Shared → Prop} {Q : Value → Shared → Prop}, Q (.ref (hp.push o1).objs.size) ⟨((hp.push o1).push o2), g, d, tk, os⟩ → wpAny (model prog w) A' (pyIter v2) Q E ⟨(hp.push o1), g, d, tk, os⟩ :=
      fun q => B2.iter prog w _ _ ⟨(hp.push o1), g, d, tk, os⟩ _ (B2.keeps _ _ h2 fun b o' e => (Heap.get?_push_of_some _ e)) q
    have e1 : (Str.ofString "strict" == ("strict" : Str)) = true := by decide +kernel
    have e2 : (Str.ofString "strict" != ("strict" : Str)) = false := by decide +kernel
    wp_walk using q1, q2
    exact ⟨_, rfl, h⟩
section
variable {prog : Program} {w : World} {A : Around} {E : Value → Shared → Prop} {s : Shared}
theorem zipS_begins {v1 v2 : Value} {o1 o2 : Obj} {H1 H2 : Heap → Prop} {Q : Value → Shared → Prop} (B1 : Begins v1 o1 H1) (B2 : Begins v2 o2 H2) (h1 : H1 s.heap) (h2 : H2 s.heap)
    (h : ∀ h', ZipS h' (s.heap.objs.size + 4) (s.heap.objs.size + 2) (s.heap.objs.size + 3) .none → IsTupOf2 h' (s.heap.objs.size + 2) (.ref s.heap.objs.size) (.ref (s.heap.objs.size + 1)) →
      IsTupOf2 h' (s.heap.objs.size + 3) .none .none → h'.get? s.heap.objs.size = some o1 → h'.get? (s.heap.objs.size + 1) = some o2 →
      (∀ c o, s.heap.get? c = some o → h'.get? c = some o) → Q (.ref (s.heap.objs.size + 4)) { s with heap := h' }) :
    wpAny (model prog w) A (call (.type "zip") [v1, v2] [(Str.ofString "strict", .bool true)]) Q E s := by
  refine callType_newKw F.called_zip (by decide) (tyZipS _ _) (newZipS _ _) (fun obj => initZipS obj _ _) F.entry_zip_new (meetsZipS B1 B2) ⟨⟨h1, h2⟩, ?_⟩
  have z1 : (s.heap.push o1).objs.size = s.heap.objs.size + 1 := Heap.size_push ..
  have z2 : ((s.heap.push o1).push o2).objs.size = s.heap.objs.size + 2 := by rw [Heap.size_push, z1]
  have zT : (gzT2 s.heap o1 o2).objs.size = s.heap.objs.size + 3 := by rw [Heap.size_push, z2]
  have zO : (gzO2 s.heap o1 o2).objs.size = s.heap.objs.size + 4 := by rw [Heap.size_push, zT]
  have up : ∀ {h : Heap} {o : Obj} {b : Addr} {x : Obj}, h.get? b = some x → (h.push o).get? b = some x := fun e => Heap.get?_push_of_some _ e
  have gZ : ZipS (zsZ s.heap o1 o2) (gzO2 s.heap o1 o2).objs.size ((s.heap.push o1).push o2).objs.size (gzT2 s.heap o1 o2).objs.size .none := Heap.get?_push_size _ rfl
  have gO : IsTupOf2 (zsZ s.heap o1 o2) (gzT2 s.heap o1 o2).objs.size .none .none := up (Heap.get?_push_size _ rfl)
  have gT : IsTupOf2 (zsZ s.heap o1 o2) ((s.heap.push o1).push o2).objs.size (.ref s.heap.objs.size) (.ref (s.heap.push o1).objs.size) := up (up (Heap.get?_push_size _ rfl))
  have g1 : (zsZ s.heap o1 o2).get? s.heap.objs.size = some o1 := up (up (up (up (Heap.get?_push_size _ B1.free))))
  have g2 : (zsZ s.heap o1 o2).get? (s.heap.push o1).objs.size = some o2 := up (up (up (Heap.get?_push_size _ B2.free)))
  rw [zO, zT, z2] at gZ
  rw [zT] at gO
  rw [z2, z1] at gT
  rw [z1] at g2
  show _ ∧ _
  rw [zO]
  exact ⟨⟨_, gZ, rfl⟩, h _ gZ gT gO g1 g2 fun c o e => up (up (up (up (up e))))⟩
end
end Ev
end

section
set_option linter.all false
set_option Elab.async false
set_option maxRecDepth 100000
/-! Turns that give pairs: enumerate, zip (also strict) over lists and tuples alike. -/
namespace Ev
open PySem PyProof.Rows L2

theorem valAt {xs : List V} {us : List Value} (r : Vals xs us) {i : Nat} {u : Value} (h : us[i]? = some u) : ∃ x, xs[i]? = some x ∧ RelV x u := by
  have hi : i < xs.length := by rw [r.length]; exact (List.getElem?_eq_some_iff.mp h).1
  obtain ⟨u', e, q⟩ := r.get (List.getElem?_eq_getElem hi)
  rw [h] at e; cases e
  exact ⟨_, List.getElem?_eq_getElem hi, q⟩

/-! ### a list or a tuple -/
def sqK (K : PySem.W.Frag) (k : Bool) (H : Hp) (a : Addr) (xs : List V) : Prop := match k with
  | true => SqL K H a xs
  | false => SqT K H a xs
def itK (k : Bool) (h : Heap) (it a : Addr) (i : Nat) : Prop := match k with
  | true => h.IsListIter it a i
  | false => h.IsTupleIter it a i
def ofK (k : Bool) (h : Heap) (a : Addr) (items : Array Value) : Prop := match k with
  | true => h.IsList a items
  | false => h.IsTuple a items
def obK (k : Bool) (a : Addr) : Obj := match k with
  | true => { cls := .type "list_iterator", data := .fields #[.ref a, .int 0 0] }
  | false => { cls := .type "tuple_iterator", data := .fields #[.ref a, .int 0 0] }
theorem feedK {X : Cx} {pins : List (Addr × Obj)} {σ : L2.St} {H : Hp} {s : Shared} {k : Bool} {a : Addr} {xs : List V} (I : Inv X pins σ H s) (h : sqK X.K k H a xs) :
    ∃ its : List Value, Vals xs its ∧ ofK k s.heap a its.toArray ∧ a < s.heap.objs.size ∧ xs.length ≤ sizeLine := by
  cases k with
  | true =>
    obtain ⟨its, rv, p, hz⟩ := I.list h
    exact ⟨its, rv, p.isList, p.lt, hz⟩
  | false =>
    obtain ⟨its, rv, p, hz⟩ := I.tuple h
    exact ⟨its, rv, p, p.lt, hz⟩
theorem drawsK {prog : Program} {w : World} {A : Around} (hh : A.handled = none) (k : Bool) {it a : Addr} (ne : a ≠ it) (items : Array Value) :
    Draws prog w A it [it, a] items.size (fun i v => items[i]? = some v) (fun i h => itK k h it a i ∧ ofK k h a items) := by
  cases k with
  | true => exact Draws.list hh it a ne items
  | false => exact Draws.tuple hh it a ne items
theorem beginsK (k : Bool) (a : Addr) (items : Array Value) : Begins (.ref a) (obK k a) (fun h => ofK k h a items) := by
  cases k with
  | true => exact begins_list a items
  | false => exact begins_tuple a items
theorem itK.at {k : Bool} {h h' : Heap} {it a : Addr} {i : Nat} (x : itK k h it a i) (f : ∀ o, h.get? it = some o → h'.get? it = some o) : itK k h' it a i := by
  cases k with
  | true =>
    have x' : h.IsListIter it a i := x
    exact x'.at fun o e => f o e
  | false =>
    obtain ⟨o, e, r⟩ := x
    exact ⟨o, f o e, r⟩
theorem itK.obj {k : Bool} {h : Heap} {it a : Addr} {i : Nat} (x : itK k h it a i) : ∃ o, h.get? it = some o ∧ ∀ v, o.data ≠ .cell v := by
  cases k with
  | true => obtain ⟨o, e, _, d⟩ := x; exact ⟨o, e, fun v q => by rw [d] at q; cases q⟩
  | false => obtain ⟨o, e, _, d⟩ := x; exact ⟨o, e, fun v q => by rw [d] at q; cases q⟩
theorem itK.new {k : Bool} {h : Heap} {it a : Addr} (e : h.get? it = some (obK k a)) : itK k h it a 0 := by
  cases k with
  | true => exact ⟨_, e, rfl, rfl⟩
  | false => exact ⟨_, e, rfl, rfl⟩

/-! ### pairs -/
def ItP (n : Nat) (xs ys : Nat → Option V) (G : Hp → Prop) : It :=
  ⟨fun i H => i < n ∧ G H, fun i H v H' => ∃ T x y, v = .ref T ∧ H T = none ∧ H' = upd H T (.tup [x, y]) ∧ xs i = some x ∧ ys i = some y, fun i H => n ≤ i ∧ G H⟩
theorem turn_pair {P : Program} {w : World} {K : PySem.W.Frag} {elts : List Expr} {kk : Nat} {tpos : Pos} {n : Nat} {xs ys : Nat → Option V} {G : Hp → Prop} {fp wr : List Addr} {z : Addr} {tn : Nat → Heap → Prop}
    (mem : z ∈ fp) (sub : ∀ b ∈ wr, b ∈ fp) (obj : ∀ i h, tn i h → ∀ b ∈ fp, ∃ o, h.get? b = some o ∧ ∀ v, o.data ≠ .cell v)
    (keep : ∀ i h h', tn i h → (∀ b ∈ fp, ∀ o, h.get? b = some o → h'.get? b = some o) → tn i h') (le : ∀ i h, tn i h → i ≤ n)
    (walk : ∀ (X : Cx), X.prog = P → X.w = w → X.K = K → X.calm = true → ∀ pins s σ H i, Inv X pins σ H s → G H → tn i s.heap → ∃ fpW Pt St Mid, WalksT X.prog X.w X.A z fpW wr n Pt St Mid ∧ St i s.heap ∧ (∀ h, i < n → St (i + 1) h → tn (i + 1) h) ∧
      ∀ vals, i < n → Pt i vals → ∃ u1 u2 x y, vals = #[u1, u2] ∧ xs i = some x ∧ ys i = some y ∧ RelV x u1 ∧ RelV y u2)
    (self : ∀ (A : Around) (i : Nat) (s : Shared) (Q : Value → Shared → Prop) (E : Value → Shared → Prop), tn i s.heap → Q (.ref z) s → wpAny (model P w) A (pyIter (.ref z)) Q E s) :
    Turn P w K (.Tuple elts kk tpos) (ItP n xs ys G) fp z tn where
  mem := mem
  obj := obj
  keep := keep
  item := by
    intro X hP hw hK hc i pins s σ H E I hf st hg
    obtain ⟨fpW, Pt, St, Mid, W, s0, up, dat⟩ := walk X hP hw hK hc pins s σ H i I hg.2 st
    subst hP hw hK
    refine W.item i s _ _ hg.1 s0 fun T vals h' tk hp hnew hT hm hk => ⟨.ref T, rfl, W.go elts kk tpos i T { s with heap := h', toks := tk } _ _ hm fun h2 st2 hk2 => ?_⟩
    obtain ⟨u1, u2, x, y, rfl, ex, ey, r1, r2⟩ := dat vals hg.1 hp
    have hT2 : h2.IsTuple T #[u1, u2] := hT.at fun o e => hk2 T o (W.apart i T h' hm) e
    have new : ObjOk X.prog X.w (upd H T (.tup [x, y])) h2 T (.tup [x, y]) := ⟨by show 2 ≤ sizeLine; decide, [u1, u2], .cons r1 (.cons r2 .nil), hT2⟩
    have I1 : Inv X pins σ (upd H T (.tup [x, y])) { s with heap := h2, toks := tk } :=
      I.turnedNew (t' := tk) (ch := wr) (fun b o hb e => hk2 b o hb (hk b o hb e)) (fun b hb => hf b (sub b hb)) hnew new
    refine ⟨.ref T, _, I1, rfl, ⟨T, x, y, rfl, I.hok.fresh hnew, rfl, ex, ey⟩, up h2 hg.1 st2, fun b hb => ?_⟩
    obtain ⟨o, ho, _⟩ := obj i s.heap st b hb
    rw [upd_ne (Nat.ne_of_lt (Nat.lt_of_lt_of_le (Heap.lt_size ho) hnew))]
    exact (hf b hb).1
  done := by
    intro X hP hw hK hc i pins s σ H E I hf st hg
    obtain ⟨fpW, Pt, St, Mid, W, s0, up, dat⟩ := walk X hP hw hK hc pins s σ H i I hg.2 st
    subst hP hw hK
    have e : i = n := Nat.le_antisymm (le i _ st) hg.1
    subst e
    exact W.done s _ _ s0 fun h' tk hk => ⟨rfl, I.turnedL (t' := tk) (ch := wr) hk fun b hb => hf b (sub b hb)⟩
  self := self
theorem turn_enumK {P : Program} {w : World} {K : PySem.W.Frag} {elts : List Expr} {kk : Nat} {tpos : Pos} (k : Bool) {a e it : Addr} {xs : List V} (ne : e ≠ it) (na : a ≠ e) (ni : a ≠ it) :
    Turn P w K (.Tuple elts kk tpos) (ItP xs.length (fun i => some (.int (i : Nat))) (fun i => xs[i]?) (fun H => sqK K k H a xs)) [e, it] e (fun i h => (∃ old, IsEnum h e it ((i : Nat) : Int) old) ∧ itK k h it a i ∧ i ≤ xs.length) := by
  refine turn_pair (wr := [e, it]) (by simp) (fun b hb => hb) (fun i h st b hb => ?_) (fun i h h' st kp => ?_) (fun i h st => st.2.2) (fun X hP hw hK hc pins s σ H i I hq st => ?_) fun A i s Q E st h => ?_
  · obtain ⟨⟨old, he⟩, hi, _⟩ := st
    have e' : b = e ∨ b = it := by simpa using hb
    rcases e' with z | z
    · rw [z]; exact ⟨_, he, fun v q => nomatch q⟩
    · rw [z]; exact hi.obj
  · obtain ⟨⟨old, he⟩, hi, l⟩ := st
    exact ⟨⟨old, kp e (by simp) _ he⟩, hi.at fun o q => kp it (by simp) o q, l⟩
  · subst hK
    obtain ⟨its, rv, p, _, _⟩ := feedK I hq
    have hl : its.toArray.size = xs.length := by rw [List.size_toArray]; exact rv.length.symm
    have W := WalksT.enumerateD (drawsK (prog := X.prog) (w := X.w) (A := X.A.in1) (I.ok.hd hc) k ni its.toArray) e ne (by simp [ne, Ne.symm na]) (by simp)
    rw [hl] at W
    refine ⟨_, _, _, _, W, ⟨st.1, st.2.1, p⟩, fun h lt q => ⟨by have := q.1; simpa using this, q.2.1, lt⟩, fun vals lt hp => ?_⟩
    obtain ⟨t, x, hx, rfl⟩ := hp
    obtain ⟨y, hy, ry⟩ := valAt rv (i := i) (u := x) (by simpa using hx)
    exact ⟨_, x, _, y, rfl, rfl, hy, ⟨t, rfl⟩, ry⟩
  · obtain ⟨⟨old, he⟩, _⟩ := st
    exact wpAny_pyIter_enum he h
theorem turn_zipK {P : Program} {w : World} {K : PySem.W.Frag} {elts : List Expr} {kk : Nat} {tpos : Pos} (k k2 : Bool) {a b z TI TO i1 i2 : Addr} {xs ys : List V} (S : ZipSep2 z TI TO i1 i2 [i1, a] [i2, b]) (na : a ≠ i1) (nb : b ≠ i2) {n : Nat} (hn : n = min xs.length ys.length) :
    Turn P w K (.Tuple elts kk tpos) (ItP n (fun i => xs[i]?) (fun i => ys[i]?) (fun H => sqK K k H a xs ∧ sqK K k2 H b ys)) [z, TI, TO, i1, i2] z
      (fun i h => IsZip h z TI TO .none ∧ IsTupOf2 h TI (.ref i1) (.ref i2) ∧ (∃ a1 a2, IsTupOf2 h TO a1 a2) ∧ itK k h i1 a i ∧ itK k2 h i2 b i ∧ i ≤ n) := by
  refine turn_pair (wr := [z, TO, i1, i2]) (by simp) (fun b hb => ?_) (fun i h st b hb => ?_) (fun i h h' st kp => ?_) (fun i h st => st.2.2.2.2.2) (fun X hP hw hK hc pins s σ H i I hq st => ?_) fun A i s Q E st h => ?_
  · have e : b = z ∨ b = TO ∨ b = i1 ∨ b = i2 := by simpa using hb
    rcases e with e | e | e | e <;> simp [e]
  · obtain ⟨h1, h2, ⟨a1, a2, h3⟩, h4, h5, _⟩ := st
    have e : b = z ∨ b = TI ∨ b = TO ∨ b = i1 ∨ b = i2 := by simpa using hb
    rcases e with e | e | e | e | e
    · rw [e]; exact ⟨_, h1, fun v q => nomatch q⟩
    · rw [e]; exact ⟨_, h2, fun v q => nomatch q⟩
    · rw [e]; exact ⟨_, h3, fun v q => nomatch q⟩
    · rw [e]; exact h4.obj
    · rw [e]; exact h5.obj
  · obtain ⟨h1, h2, ⟨a1, a2, h3⟩, h4, h5, l⟩ := st
    exact ⟨kp z (by simp) _ h1, kp TI (by simp) _ h2, ⟨a1, a2, kp TO (by simp) _ h3⟩, h4.at fun o q => kp i1 (by simp) o q, h5.at fun o q => kp i2 (by simp) o q, l⟩
  · subst hK
    obtain ⟨its, rv, p, _, _⟩ := feedK I hq.1
    obtain ⟨its2, rv2, p2, _, _⟩ := feedK I hq.2
    have hl : its.toArray.size = xs.length := by rw [List.size_toArray]; exact rv.length.symm
    have hl2 : its2.toArray.size = ys.length := by rw [List.size_toArray]; exact rv2.length.symm
    have W := WalksT.zipD2 S (drawsK (prog := X.prog) (w := X.w) (A := X.A.in1) (I.ok.hd hc) k na its.toArray) (drawsK (prog := X.prog) (w := X.w) (A := X.A.in1) (I.ok.hd hc) k2 nb its2.toArray)
    rw [hl, hl2, ← hn] at W
    obtain ⟨h1, h2, h3, h4, h5, l⟩ := st
    refine ⟨_, _, _, _, W, ⟨h1, h2, h3, ⟨h4, p⟩, h5, p2⟩, fun h lt q => ⟨q.1, q.2.1, q.2.2.1, q.2.2.2.1.1, q.2.2.2.2.1, lt⟩, fun vals lt hp => ?_⟩
    obtain ⟨x, x2, hx, hx2, rfl⟩ := hp
    obtain ⟨y, hy, ry⟩ := valAt rv (i := i) (u := x) (by simpa using hx)
    obtain ⟨y2, hy2, ry2⟩ := valAt rv2 (i := i) (u := x2) (by simpa using hx2)
    exact ⟨x, x2, y, y2, rfl, hy, hy2, ry, ry2⟩
  · exact wpAny_pyIter_zip st.1 h
theorem turn_zipS {P : Program} {w : World} {K : PySem.W.Frag} {elts : List Expr} {kk : Nat} {tpos : Pos} (k k2 : Bool) {a b z TI TO i1 i2 : Addr} {xs ys : List V} (S : ZipSep2 z TI TO i1 i2 [i1, a] [i2, b]) (na : a ≠ i1) (nb : b ≠ i2) (hn : xs.length = ys.length) :
    Turn P w K (.Tuple elts kk tpos) (ItP xs.length (fun i => xs[i]?) (fun i => ys[i]?) (fun H => sqK K k H a xs ∧ sqK K k2 H b ys)) [z, TI, TO, i1, i2] z
      (fun i h => ZipS h z TI TO .none ∧ IsTupOf2 h TI (.ref i1) (.ref i2) ∧ (∃ a1 a2, IsTupOf2 h TO a1 a2) ∧ itK k h i1 a i ∧ itK k2 h i2 b i ∧ i ≤ xs.length) := by
  refine turn_pair (wr := [z, TO, i1, i2]) (by simp) (fun b hb => ?_) (fun i h st b hb => ?_) (fun i h h' st kp => ?_) (fun i h st => st.2.2.2.2.2) (fun X hP hw hK hc pins s σ H i I hq st => ?_) fun A i s Q E st h => ?_
  · have e : b = z ∨ b = TO ∨ b = i1 ∨ b = i2 := by simpa using hb
    rcases e with e | e | e | e <;> simp [e]
  · obtain ⟨h1, h2, ⟨a1, a2, h3⟩, h4, h5, _⟩ := st
    have e : b = z ∨ b = TI ∨ b = TO ∨ b = i1 ∨ b = i2 := by simpa using hb
    rcases e with e | e | e | e | e
    · rw [e]; exact ⟨_, h1, fun v q => nomatch q⟩
    · rw [e]; exact ⟨_, h2, fun v q => nomatch q⟩
    · rw [e]; exact ⟨_, h3, fun v q => nomatch q⟩
    · rw [e]; exact h4.obj
    · rw [e]; exact h5.obj
  · obtain ⟨h1, h2, ⟨a1, a2, h3⟩, h4, h5, l⟩ := st
    exact ⟨kp z (by simp) _ h1, kp TI (by simp) _ h2, ⟨a1, a2, kp TO (by simp) _ h3⟩, h4.at fun o q => kp i1 (by simp) o q, h5.at fun o q => kp i2 (by simp) o q, l⟩
  · subst hK
    obtain ⟨its, rv, p, _, _⟩ := feedK I hq.1
    obtain ⟨its2, rv2, p2, _, _⟩ := feedK I hq.2
    have hl : its.toArray.size = xs.length := by rw [List.size_toArray]; exact rv.length.symm
    have hl2 : its2.toArray.size = xs.length := by rw [List.size_toArray, hn]; exact rv2.length.symm
    have D1 := drawsK (prog := X.prog) (w := X.w) (A := X.A.in1) (I.ok.hd hc) k na its.toArray
    have D2 := drawsK (prog := X.prog) (w := X.w) (A := X.A.in1) (I.ok.hd hc) k2 nb its2.toArray
    rw [hl] at D1
    rw [hl2] at D2
    have W := walksZipS (I.ok.hd hc) S D1 D2
    obtain ⟨h1, h2, h3, h4, h5, l⟩ := st
    refine ⟨_, _, _, _, W, ⟨h1, h2, h3, ⟨h4, p⟩, h5, p2⟩, fun h lt q => ⟨q.1, q.2.1, q.2.2.1, q.2.2.2.1.1, q.2.2.2.2.1, lt⟩, fun vals lt hp => ?_⟩
    obtain ⟨x, x2, hx, hx2, rfl⟩ := hp
    obtain ⟨y, hy, ry⟩ := valAt rv (i := i) (u := x) (by simpa using hx)
    obtain ⟨y2, hy2, ry2⟩ := valAt rv2 (i := i) (u := x2) (by simpa using hx2)
    exact ⟨x, x2, y, y2, rfl, hy, hy2, ry, ry2⟩
  · have hT : s.TypeIs (.ref z) "zip" := ⟨_, st.1, rfl⟩
    refine wpAny_pyIter_slot hT F.slot_zip_iter (wpAny_call_entry F.slot_zip_iter hT F.entry_zip_iter ?_ (F.args_zip_iter_1 _))
    show wpAny _ _ (PySem.ret (Value.ref z)) _ _ s
    exact wpAny_pure ⟨_, rfl, "zip", _, hT, F.slot_zip_next.lookup, h⟩

/-! ### enumerate(x): its two cells -/
set_option maxHeartbeats 1000000 in
theorem meetsEnum {v : Value} {o : Obj} {H : Heap → Prop} (B : Begins v o H) :
    Meets (Builtin.«enumerate.__new__» ⟨[.type "enumerate", v], []⟩) (fun _ R s => H s.heap ∧
      R (.ok (.ret (.ref (s.heap.push o).objs.size))) { s with heap := (s.heap.push o).push { cls := .type "enumerate", data := .fields #[.none, .bool false, .ref s.heap.objs.size, rawInt 0, .none, .none] } }) :=
  .of_wp fun prog w A R s h => by
    obtain ⟨hp, g, d, tk, os⟩ := s; obtain ⟨h1, h⟩ := h
    have hsub := sub_enumerate
    have q1 : ∀ {A' : Around} {E : Value → Shared → Prop} {Q : Value → Shared → Prop}, Q (.ref hp.objs.size) ⟨hp.push o, g, d, tk, os⟩ → wpAny (model prog w) A' (pyIter v) Q E ⟨hp, g, d, tk, os⟩ :=
      fun q => B.iter prog w _ _ ⟨hp, g, d, tk, os⟩ _ h1 q
    wp_walk using q1
    refine wpAny_stack_any fun st => wpAny_pure ?_
    split
    · rename_i c _ _ _ _ _
      cases (c == Value.type "enumerate")
      · wp_walk using q1
        exact ⟨_, rfl, h⟩
      · wp_walk using q1
        exact ⟨_, rfl, h⟩
    · wp_walk using q1
      exact ⟨_, rfl, h⟩
section
variable {prog : Program} {w : World} {A : Around} {E : Value → Shared → Prop} {s : Shared}
theorem enumBegins {v : Value} {o : Obj} {H : Heap → Prop} {Q : Value → Shared → Prop} (B : Begins v o H) (h1 : H s.heap)
    (h : ∀ h', IsEnum h' (s.heap.objs.size + 1) s.heap.objs.size 0 .none → h'.get? s.heap.objs.size = some o → (∀ b o, s.heap.get? b = some o → h'.get? b = some o) → Q (.ref (s.heap.objs.size + 1)) { s with heap := h' }) :
    wpAny (model prog w) A (call (.type "enumerate") [v]) Q E s := by
  refine callType_new F.called_enumerate (by decide) (F.typeCall_enumerate_1 _) (F.newCall_enumerate_1 _) (fun obj => F.args_object_init_2 obj _) F.entry_enumerate_new (meetsEnum B) ⟨h1, ?_⟩
  have hz : (s.heap.push o).objs.size = s.heap.objs.size + 1 := Heap.size_push ..
  have he : IsEnum ((s.heap.push o).push { cls := .type "enumerate", data := .fields #[.none, .bool false, .ref s.heap.objs.size, rawInt 0, .none, .none] }) (s.heap.push o).objs.size s.heap.objs.size 0 .none := Heap.get?_push_size _ rfl
  show _ ∧ _
  rw [hz] at he ⊢
  exact ⟨⟨_, he, rfl⟩, h _ he (Heap.get?_push_of_some _ (Heap.get?_push_size _ B.free)) fun b o x => Heap.get?_push_of_some _ (Heap.get?_push_of_some _ x)⟩
end

/-! ### the iterators come -/
section
variable {X : Cx} {elts : List Expr} {kk : Nat} {tpos p pos : Pos} {e a b : Expr} {ta : TA}
theorem freshL {pins : List (Addr × Obj)} {σ : L2.St} {H : Hp} {s : Shared} {l : List Addr} (I : Inv X pins σ H s) (h : ∀ b ∈ l, s.heap.objs.size ≤ b) : ∀ b ∈ l, FpOk X pins H b := fun b hb => I.fpOk (h b hb) (I.hok.fresh (h b hb))
def iEnumK (K : PySem.W.Frag) (ta : TA) : TI := fun σ H R => ta σ H fun vs H1 => ∃ k a xs, vs = [.ref a] ∧ sqK K k H1 a xs ∧ R (ItP xs.length (fun i => some (.int (i : Nat))) (fun i => xs[i]?) (fun H => sqK K k H a xs)) H1
theorem pi_enumK (hg : Gl X "enumerate") (hm : X.mg "enumerate" = none) (ha : PA X [e] ta) (hs : starEach [e] X.env = (false, eval e X.env) :: starEach [] X.env := by rfl) :
    PI X (.Tuple elts kk tpos) (.Call (.Name "enumerate" p) [e] [] pos) (iEnumK X.K ta) := by
  refine ⟨fun pins s σ H R I h => ?_⟩
  refine Call_ (ld_blt I hg hm boot_enumerate (PyProof.Rows.callWith_type1 (thn (ha.run pos pins s σ H _ I h) fun us s1 ⟨vs, H1, I1, r1, q1⟩ => ?_) hs rfl))
  obtain ⟨k, a, xs, ex, hq, q⟩ := q1
  subst ex
  obtain ⟨u, rfl, ru⟩ := vals1 r1
  cases ru
  obtain ⟨its, rv, p', al, _⟩ := feedK I1 hq
  refine enumBegins (beginsK k a its.toArray) p' fun h' he hit hk => wpAny_pyIter_enum he ?_
  have I2 : Inv X pins σ H1 { s1 with heap := h' } := I1.kept (t' := s1.toks) hk
  refine ⟨s1.heap.objs.size + 1, [s1.heap.objs.size + 1, s1.heap.objs.size], _, _, H1, rfl, I2, turn_enumK k (Nat.succ_ne_self _) (Nat.ne_of_lt (Nat.lt_succ_of_lt al)) (Nat.ne_of_lt al), ⟨⟨.none, he⟩, itK.new hit, Nat.zero_le _⟩, freshL I1 fun b hb => ?_, q⟩
  have e' : b = s1.heap.objs.size + 1 ∨ b = s1.heap.objs.size := by simpa using hb
  rcases e' with z | z <;> rw [z]
  · exact Nat.le_add_right _ _
  · exact Nat.le_refl _
def iZipK (K : PySem.W.Frag) (ta : TA) : TI := fun σ H R => ta σ H fun vs H1 => ∃ k k2 a b xs ys, vs = [.ref a, .ref b] ∧ (sqK K k H1 a xs ∧ sqK K k2 H1 b ys) ∧ R (ItP (min xs.length ys.length) (fun i => xs[i]?) (fun i => ys[i]?) (fun H => sqK K k H a xs ∧ sqK K k2 H b ys)) H1
def iZipS (K : PySem.W.Frag) (ta : TA) : TI := fun σ H R => ta σ H fun vs H1 => ∃ k k2 a b xs ys, vs = [.ref a, .ref b] ∧ (sqK K k H1 a xs ∧ sqK K k2 H1 b ys) ∧ xs.length = ys.length ∧ R (ItP xs.length (fun i => xs[i]?) (fun i => ys[i]?) (fun H => sqK K k H a xs ∧ sqK K k2 H b ys)) H1
theorem vals2 {x y : V} {us : List Value} (r : Vals [x, y] us) : ∃ u v, us = [u, v] ∧ RelV x u ∧ RelV y v := by
  cases r with
  | cons a r =>
    cases r with
    | cons b r => cases r; exact ⟨_, _, rfl, a, b⟩
theorem five {N c : Nat} (h : c ∈ [N + 4, N + 2, N + 3, N, N + 1]) : N ≤ c := by
  simp at h
  rcases h with z | z | z | z | z <;> omega
theorem pi_zipK (hg : Gl X "zip") (hm : X.mg "zip" = none) (ha : PA X [a, b] ta) (hs : starEach [a, b] X.env = (false, eval a X.env) :: starEach [b] X.env := by rfl) (hpl : (backTo pos (starEach [b] X.env)).any (·.1) = false := by rfl) :
    PI X (.Tuple elts kk tpos) (.Call (.Name "zip" p) [a, b] [] pos) (iZipK X.K ta) := by
  refine ⟨fun pins s σ H R I h => ?_⟩
  refine Call_ (ld_blt I hg hm PyProof.Rows.boot_zip (PyProof.Rows.callWith_type1 (thn (ha.run pos pins s σ H _ I h) fun us s1 ⟨vs, H1, I1, r1, q1⟩ => ?_) hs hpl))
  obtain ⟨k, k2, a, b, xs, ys, ex, hq, q⟩ := q1
  subst ex
  obtain ⟨u, v, rfl, ru, rv⟩ := vals2 r1
  cases ru
  cases rv
  obtain ⟨its, r1, p1, al, _⟩ := feedK I1 hq.1
  obtain ⟨its2, r2, p2, bl, _⟩ := feedK I1 hq.2
  refine zip_begins2 (beginsK k a its.toArray) (beginsK k2 b its2.toArray) p1 p2 fun h' hz hTI hTO h1 h2 hsz hk => wpAny_pyIter_zip hz ?_
  have I2 : Inv X pins σ H1 { s1 with heap := h' } := I1.kept (t' := s1.toks) hk
  exact ⟨s1.heap.objs.size + 4, [s1.heap.objs.size + 4, s1.heap.objs.size + 2, s1.heap.objs.size + 3, s1.heap.objs.size, s1.heap.objs.size + 1], _, _, H1, rfl, I2, turn_zipK k k2 (zip_sep2 (fp1 := [a]) (fp2 := [b]) (by simpa using al) (by simpa using bl)) (Nat.ne_of_lt al) (Nat.ne_of_lt (Nat.lt_succ_of_lt bl)) rfl,
    ⟨hz, hTI, ⟨_, _, hTO⟩, itK.new h1, itK.new h2, Nat.zero_le _⟩, freshL I1 fun c hc => five hc, q⟩
theorem callType_kw {M : Model} {A : Around} {E : Value → Shared → Prop} {s : Shared} {pos : Pos} {T : String} {args : List (Bool × Sem Value)} {keywords : List (Option Str × Sem Value)} {Q : Value → Shared → Prop}
    (hplain : args.any (·.1) = false) (hkw : keywords.any (·.1.isNone) = false)
    (h : wpAny M A (evalArgs (.type T) true args keywords) (fun a s₁ => wpAny M A (call (.type T) a.pos a.kw) Q E s₁) E s) : wpAny M A (callWith pos (.type T) [] args keywords) Q E s := by
  unfold callWith
  refine wpAny_bind (wpAny_holding (wpAny_mono h (fun a s₁ h₁ => wpAny_bind (wpAny_standAt ?_)) fun _ _ x => x))
  simp only [hplain, hkw, Bool.or_false]
  refine wpAny_bind (wpAny_pure ?_)
  exact wpAny_bind (wpAny_mono h₁ (fun r s₂ hr => wpAny_bind (wpAny_holding (wpAny_point (wpAny_pure hr)))) fun _ _ x => x)
theorem pi_zipS {j : Nat} {cp kp : Pos} (hg : Gl X "zip") (hm : X.mg "zip" = none) (ha : PA X [a, b] ta) (hs : backTo pos (starEach [a, b] X.env) = (false, eval a X.env) :: backTo pos (starEach [b] X.env) := by rfl) (hpl : (backTo pos (starEach [a, b] X.env)).any (·.1) = false := by rfl) :
    PI X (.Tuple elts kk tpos) (.Call (.Name "zip" p) [a, b] [⟨some "strict", .Constant (.bool true) j cp, kp⟩] pos) (iZipS X.K ta) := by
  refine ⟨fun pins s σ H R I h => ?_⟩
  refine wpAny_Call_Name_kw (ld_blt I hg hm PyProof.Rows.boot_zip (callType_kw hpl rfl ?_))
  rw [hs]
  refine PyProof.Rows.evalArgs_kwB rfl ?_
  rw [← hs]
  refine thn (ha.run pos pins s σ H _ I h) fun us s1 ⟨vs, H1, I1, r1, q1⟩ => ?_
  refine thn ((pk_cons (X := X) (nm := some "strict") (kpos := kp) pe_bl pk_nil).run pos pins s1 σ H1 (fun zs H2 => zs = [.bl true] ∧ H2 = H1) I1 ⟨rfl, rfl⟩) fun ws s2 ⟨zs, H2, I2, r2, ez, eh⟩ => ?_
  subst ez eh
  obtain ⟨w1, rfl, rw1⟩ := vals1 r2
  cases rw1
  show wpAny (model X.prog X.w) X.A (call (.type "zip") us [(Str.ofString "strict", .bool true)]) _ X.xe s2
  obtain ⟨k, k2, a, b, xs, ys, ex, hq, hn, q⟩ := q1
  subst ex
  obtain ⟨u, v, rfl, ru, rv⟩ := vals2 r1
  cases ru
  cases rv
  obtain ⟨its, r1, p1, al, _⟩ := feedK I2 hq.1
  obtain ⟨its2, r2, p2, bl, _⟩ := feedK I2 hq.2
  refine zipS_begins (beginsK k a its.toArray) (beginsK k2 b its2.toArray) p1 p2 fun h' hz hTI hTO h1 h2 hk => ?_
  have hT : ({ s2 with heap := h' } : Shared).TypeIs (.ref (s2.heap.objs.size + 4)) "zip" := ⟨_, hz, rfl⟩
  refine wpAny_pyIter_slot hT F.slot_zip_iter (wpAny_call_entry F.slot_zip_iter hT F.entry_zip_iter ?_ (F.args_zip_iter_1 _))
  show wpAny _ _ (PySem.ret (Value.ref (s2.heap.objs.size + 4))) _ _ _
  refine wpAny_pure ⟨_, rfl, "zip", _, hT, F.slot_zip_next.lookup, ?_⟩
  have I3 : Inv X pins σ H2 { s2 with heap := h' } := I2.kept (t' := s2.toks) hk
  exact ⟨s2.heap.objs.size + 4, [s2.heap.objs.size + 4, s2.heap.objs.size + 2, s2.heap.objs.size + 3, s2.heap.objs.size, s2.heap.objs.size + 1], _, _, H2, rfl, I3, turn_zipS k k2 (zip_sep2 (fp1 := [a]) (fp2 := [b]) (by simpa using al) (by simpa using bl)) (Nat.ne_of_lt al) (Nat.ne_of_lt (Nat.lt_succ_of_lt bl)) hn,
    ⟨hz, hTI, ⟨_, _, hTO⟩, itK.new h1, itK.new h2, Nat.zero_le _⟩, freshL I2 fun c hc => five hc, q⟩
end
end Ev
end

section
set_option linter.all false
set_option Elab.async false
set_option maxRecDepth 100000
/-! Iterators, targets, comprehensions. -/
namespace Ev
open PySem PyProof.Rows L2

/-! ### what an iterator gives -/
def ExtH (H H' : Hp) : Prop := H' = H ∨ ∃ T o, H T = none ∧ H' = upd H T o
def itemOk (p : Bool) (n : Nat) (G B H : Hp) (v : V) (d : D) : Prop := match p with
  | false => View n G B v d
  | true => ∃ T x y dx dy, v = .ref T ∧ H T = some (.tup [x, y]) ∧ d = .tuple [dx, dy] ∧ View n G B x dx ∧ View n G B y dy
/-- where things are seen: what is lent, or the heap of now -/
def vh (b : Bool) (g : Gh) (H : Hp) : Hp := match b with
  | true => g.B
  | false => msk g.sa H
theorem RelE.vh {g : Gh} {G H : Hp} {s : Src} (r : RelE g G H s) (b : Bool) : Same (Ev.vh b g H) (msk g.sa H) := by
  cases b with
  | true => exact r.bh
  | false => exact fun _ _ h => h
theorem Adv.vh {g : Gh} {G H G' H' : Hp} (a : Adv g.sa G H G' H') (b : Bool) : Same (Ev.vh b g H) (Ev.vh b g H') := by
  cases b with
  | true => exact fun _ _ h => h
  | false => exact a.h
def ItOk (p : Bool) (n : Nat) (sa : List Addr) (J : It) (G V : Hp) (ds : List D) : Prop :=
  ∀ (g : Gh) (G2 H2 : Hp) (s2 : Src), RelE g G2 H2 s2 → g.sa = sa → Same G G2 → (n ≠ 0 → Same V (msk sa H2)) →
    J.stop ds.length H2 ∧ ∀ i d, ds[i]? = some d → J.go i H2 ∧ ∀ v H3, J.yld i H2 v H3 → ExtH H2 H3 ∧ itemOk p (n - 1) G2 V H3 v d
def tI (b p : Bool) (n : Nat) (f : EvL) : TI := fun σ H R => ∃ g G ss s ds s', Rel g G H σ ss s ∧ f ss s = some (ds, s') ∧
  ∀ J G' H', RelE g G' H' s' → Adv g.sa G H G' H' → ItOk p n g.sa J G' (vh b g H') ds → R J H'
structure SI (X : Cx) (b p : Bool) (n : Nat) (tg e : Expr) (f : EvL) : Prop where
  pi : PI X tg e (tI b p n f)
/-- a value and where it is seen -/
def tV (b : Bool) (n : Nat) (f : EvE) : TE := fun σ H Q => ∃ g G ss s d s', Rel g G H σ ss s ∧ f ss s = some (d, s') ∧
  ∀ v G' H', RelE g G' H' s' → Adv g.sa G H G' H' → View n G' (vh b g H') v d → Q v H'
structure SV (X : Cx) (b : Bool) (n : Nat) (e : Expr) (f : EvE) : Prop where
  pe : PE X e (tV b n f)
theorem SE.sv {X : Cx} {n : Nat} {e : Expr} {f : EvE} (h : SE X n e f) : SV X false n e f := ⟨h.pe⟩
theorem SE.sv0 {X : Cx} {e : Expr} {f : EvE} (h : SE X 0 e f) : SV X true 0 e f := ⟨h.pe⟩
/-- a name that holds what is lent, or what stands still -/
def rdB (n i : Nat) : EvE := fun ss => match ss[i]? with
  | some (.vw k d) => if k ≤ n then ret d else stop
  | _ => stop
theorem sv_rd {X : Cx} {n i : Nat} {e : Expr} (h : PE X e (tVar i)) : SV X true n e (rdB n i) := ⟨peMono h fun σ H Q ⟨g, G, ss, s, d, s', R, ef, q⟩ => by
  unfold rdB at ef
  cases e1 : ss[i]? with
  | none => rw [e1] at ef; cases ef
  | some sl =>
    rw [e1] at ef
    cases sl <;> try (cases ef; done)
    dsimp only at ef
    split at ef
    case isFalse => cases ef
    rename_i hk
    obtain ⟨e2, e3⟩ := ret_inv ef
    subst e2; subst e3
    obtain ⟨F, f⟩ := R.f
    have ok := f.ok i
    rw [e1] at ok
    obtain ⟨v, ev, w, _⟩ := ok
    exact ⟨v, ev, q v G H R.e (Adv.refl _ _ _) (w.up hk)⟩⟩
/-- the items -/
def seqL (e : EvE) : EvL := fun ss => bnd (e ss) fun d => lft (items d)
def enumL (e : EvL) : EvL := fun ss => bnd (e ss) fun ds => ret (ds.zipIdx.map fun q => .tuple [.int (q.2 : Nat), q.1])
def zipL (a b : EvL) : EvL := fun ss => bnd (a ss) fun ds => bnd (b ss) fun es => ret ((ds.zip es).map fun q => .tuple [q.1, q.2])
def zipSL (a b : EvL) : EvL := fun ss => bnd (a ss) fun ds => bnd (b ss) fun es => if ds.length = es.length then ret ((ds.zip es).map fun q => .tuple [q.1, q.2]) else stop
def wide (a : Int) : Bool := decide (a.natAbs < 2 ^ 62)
def rngL (a b : EvE) : EvL := fun ss => bnd (a ss) fun x => bnd (b ss) fun y => match x, y with
  | .int i, .int j => if wide i && wide j then ret (rng i j) else stop
  | _, _ => stop
/-- a list or a tuple that stands -/
inductive Sits (n : Nat) (G H : Hp) : Bool → Addr → List V → List D → Prop
  | l {a : Addr} {vs : List V} {ds : List D} : (G a = some (.lst vs) ∨ (n ≠ 0 ∧ H a = some (.lst vs))) → Fa (View (n - 1) G H) vs ds → Sits n G H true a vs ds
  | t {a : Addr} {o : Obj} {vs : List V} {ds : List D} : G a = some (.frz o (.tup vs)) → DatL G vs ds → Sits n G H false a vs ds
theorem Sits.of {n : Nat} {G H : Hp} {v : V} {d : D} {ds : List D} (h : View n G H v d) (e : items d = some ds) : ∃ k a vs, v = .ref a ∧ Sits n G H k a vs ds := by
  unfold items at e
  split at e
  · cases e
    cases n with
    | zero =>
      have h' : Dat G v (.list ds) := h
      cases h' with
      | lst hh l => exact ⟨true, _, _, rfl, .l (.inl hh) (Fa.of l)⟩
    | succ n =>
      rcases h with h | ⟨p, vs, ds', e1, e2, h, f⟩ | ⟨p, kvs, ks, vs, e1, e2, h, e3, l⟩
      · cases h with
        | lst hh l => exact ⟨true, _, _, rfl, .l (.inl hh) ((Fa.of l).imp fun v d q => View.of q n)⟩
      · cases e2; exact ⟨true, p, vs, e1, .l (.inr ⟨by omega, h⟩) f⟩
      · cases e2
  · cases e
    have w := View.tuple h
    cases w with
    | tup hh _ l => exact ⟨false, _, _, rfl, .t hh l⟩
  · cases e
theorem Sits.sq {K : PySem.W.Frag} {n : Nat} {G H G2 H2 : Hp} {sa : List Addr} {k : Bool} {a : Addr} {vs : List V} {ds : List D} (s : Sits n G H k a vs ds) (g2 : Same G2 (msk sa H2)) (kg : Same G G2) (kh : n ≠ 0 → Same H (msk sa H2)) : sqK K k H2 a vs := by
  cases s with
  | l h0 f =>
    refine .inl (.inl ?_)
    rcases h0 with h0 | ⟨e, h⟩
    · exact (msk_some (g2 _ _ (kg _ _ h0))).2
    · exact (msk_some (kh e _ _ h)).2
  | t h l => exact .inl (.inr ⟨_, (msk_some (g2 _ _ (kg _ _ h))).2⟩)
theorem Sits.len {n : Nat} {G H : Hp} {k : Bool} {a : Addr} {vs : List V} {ds : List D} (s : Sits n G H k a vs ds) : vs.length = ds.length := by
  cases s with
  | l h0 f => exact f.length
  | t h l => exact l.length
theorem Fa.getV {R : V → D → Prop} {vs : List V} {ds : List D} {i : Nat} {v : V} {d : D} (f : Fa R vs ds) (e1 : vs[i]? = some v) (e2 : ds[i]? = some d) : R v d := by
  obtain ⟨v', e, q⟩ := f.get e2
  rw [e1] at e; cases e; exact q
theorem Sits.at {n : Nat} {G H G2 : Hp} {k : Bool} {a : Addr} {vs : List V} {ds : List D} {i : Nat} {v : V} {d : D} (s : Sits n G H k a vs ds) (kg : Same G G2) (e1 : vs[i]? = some v) (e2 : ds[i]? = some d) : View (n - 1) G2 H v d := by
  cases s with
  | l h0 f => exact (f.getV e1 e2).mono kg fun _ _ h => h
  | t h l => exact ((View.of ((Fa.of l).getV e1 e2) (n - 1))).mono kg fun _ _ h => h
theorem Sits.mono {n : Nat} {G H G' H' : Hp} {k : Bool} {a : Addr} {vs : List V} {ds : List D} (s : Sits n G H k a vs ds) (kg : Same G G') (kh : Same H H') : Sits n G' H' k a vs ds := by
  cases s with
  | l h0 f => exact .l (h0.imp (kg _ _) fun z => ⟨z.1, kh _ _ z.2⟩) (f.imp fun v d q => q.mono kg kh)
  | t h l => exact .t (kg _ _ h) (l.mono kg)
section
variable {X : Cx} {bb p : Bool} {n m : Nat} {tg e a b : Expr} {f fa fb : EvE} {fl fl2 : EvL} {elts : List Expr} {kk : Nat} {tpos pos ps : Pos}

/-! ### plain -/
def iSeqK (K : PySem.W.Frag) (tl : TE) : TI := fun σ H R => tl σ H fun x H1 => ∃ k a xs, x = .ref a ∧ sqK K k H1 a xs ∧ R (match k with | true => Itl K a | false => Itt K a) H1
theorem pi_seqK {l : Expr} {tl : TE} (hl : PE X l tl) : PI X tg l (iSeqK X.K tl) := by
  refine ⟨fun pins s σ H R I h => ?_⟩
  refine thn (hl.run pins s σ H _ I h) fun v s1 ⟨x, H1, I1, r1, q1⟩ => ?_
  obtain ⟨k, a, xs, rfl, hq, q⟩ := q1
  cases r1
  have fr : ∀ b ∈ [s1.heap.objs.size], FpOk X pins H1 b := freshL I1 fun b hb => by obtain rfl := List.mem_singleton.mp hb; exact Nat.le_refl _
  cases k with
  | true =>
    obtain ⟨its, rv, p, hz⟩ := I1.list hq
    refine wpAny_pyIter_list p.isList ?_
    exact ⟨s1.heap.objs.size, [s1.heap.objs.size], _, _, H1, rfl, I1.kept (t' := s1.toks) fun b o e => Heap.get?_push_of_some _ e, turn_list a _, ⟨_, Heap.get?_push_size _ rfl, rfl, rfl⟩, fr, q⟩
  | false =>
    obtain ⟨its, rv, p, hz⟩ := I1.tuple hq
    refine wpAny_pyIter_tuple (show s1.heap.IsTuple a its.toArray from p) ?_
    exact ⟨s1.heap.objs.size, [s1.heap.objs.size], _, _, H1, rfl, I1.kept (t' := s1.toks) fun b o e => Heap.get?_push_of_some _ e, turn_tuple a _, ⟨_, Heap.get?_push_size _ rfl, rfl, rfl⟩, fr, q⟩
theorem si_seq (h : SV X bb n e f) : SI X bb false n tg e (seqL f) := ⟨⟨fun pins s σ H R I ⟨g, G, ss, sr, ds, s', Rr, ef, q⟩ => by
  obtain ⟨d, s1, e1, ef⟩ := bnd_inv ef
  obtain ⟨e2, e3⟩ := lft_inv ef
  subst e3
  refine (pi_seqK h.pe).run pins s σ H R I ⟨g, G, ss, sr, d, s', Rr, e1, fun v G1 H1 R1 A1 w1 => ?_⟩
  obtain ⟨k, a, vs, rfl, st⟩ := Sits.of w1 e2
  have hl := st.len
  refine ⟨k, a, vs, rfl, st.sq R1.gh (fun _ _ h => h) (fun _ => R1.vh bb), q _ G1 H1 R1 A1 fun g2 G2 H2 s2 R2 sae kg kh => ?_⟩
  have gh2 := R2.gh
  rw [sae] at gh2
  have sq := st.sq (K := X.K) gh2 kg kh
  have fin : ∀ i d, ds[i]? = some d → ∃ v, vs[i]? = some v ∧ View (n - 1) G2 (vh bb g H1) v d := fun i d hd => by
    have hi : i < vs.length := by rw [hl]; exact (List.getElem?_eq_some_iff.mp hd).1
    exact ⟨_, List.getElem?_eq_getElem hi, st.at kg (List.getElem?_eq_getElem hi) hd⟩
  cases k with
  | true =>
    refine ⟨⟨vs, sq, by omega⟩, fun i d hd => ?_⟩
    obtain ⟨v, hv, w⟩ := fin i d hd
    exact ⟨⟨vs, v, sq, hv⟩, fun v' H3 y => ⟨.inl y.1, by have := y.2 vs sq; rw [hv] at this; cases this; exact w⟩⟩
  | false =>
    refine ⟨⟨vs, sq, by omega⟩, fun i d hd => ?_⟩
    obtain ⟨v, hv, w⟩ := fin i d hd
    exact ⟨⟨vs, v, sq, hv⟩, fun v' H3 y => ⟨.inl y.1, by have := y.2 vs sq; rw [hv] at this; cases this; exact w⟩⟩⟩⟩
theorem wide_is {a : Int} (h : wide a = true) : -(2 ^ 62) ≤ a ∧ a < 2 ^ 62 := by
  unfold wide at h
  have := of_decide_eq_true h
  omega
theorem rng_at {a b : Int} {i : Nat} {d : D} (h : (rng a b)[i]? = some d) : i < (b - a).toNat ∧ d = .int (a + (i : Nat)) := by
  unfold rng at h
  rw [List.getElem?_map] at h
  cases e : (List.range (b - a).toNat)[i]? with
  | none => rw [e] at h; cases h
  | some j =>
    rw [e] at h
    obtain ⟨h1, h2⟩ := List.getElem?_eq_some_iff.mp e
    rw [List.getElem_range] at h2
    subst h2
    cases h
    exact ⟨by simpa using h1, rfl⟩
theorem rng_length (a b : Int) : (rng a b).length = (b - a).toNat := by unfold rng; rw [List.length_map, List.length_range]
theorem itr_ok {sa : List Addr} {G H : Hp} {i j : Int} : ItOk false n sa (Itr i (j - i).toNat) G H (rng i j) := fun g2 G2 H2 s2 R2 sae kg kh => ⟨by rw [rng_length]; exact Nat.le_refl _, fun k d hd => by
  obtain ⟨h1, rfl⟩ := rng_at hd
  refine ⟨h1, fun v H3 y => ⟨.inl y.1, ?_⟩⟩
  rw [y.2]
  exact View.of (.int _) _⟩
theorem itr_ok0 {sa : List Addr} {G H : Hp} {j : Int} : ItOk false n sa (Itr 0 j.toNat) G H (rng 0 j) := by
  have := itr_ok (n := n) (sa := sa) (G := G) (H := H) (i := 0) (j := j)
  rw [Int.sub_zero] at this
  exact this
theorem si_r1 {p pos : Pos} (hg : Gl X "range") (hm : X.mg "range" = none) (ha : SE X m a fa) (na : starEach [a] X.env = (false, eval a X.env) :: starEach [] X.env := by rfl) : SI X bb false n tg (.Call (.Name "range" p) [a] [] pos) (rngL (cst (.int 0)) fa) :=
  ⟨⟨fun pins s σ H R I ⟨g, G, ss, sr, ds, s', Rr, ef, q⟩ => by
    obtain ⟨dy, s1, e1, ef⟩ := bnd_inv (show bnd (fa ss) _ sr = some (ds, s') from ef)
    refine (pi_range1 hg hm (pa_cons ha.pe pa_nil na) na).run pins s σ H R I ⟨g, G, ss, sr, dy, s1, Rr, e1, fun v G1 H1 R1 A1 w1 => ?_⟩
    cases dy <;> try (cases ef; done)
    dsimp only at ef
    split at ef
    · rename_i z
      obtain ⟨e3, e4⟩ := ret_inv ef
      subst e4
      subst e3
      rw [Bool.and_eq_true] at z
      have w2 := wide_is z.2
      refine ⟨_, by rw [dInt R1.gh w1], w2.1, w2.2, q _ G1 H1 R1 A1 ?_⟩
      exact itr_ok0
    · cases ef⟩⟩
theorem si_r2 {p pos : Pos} (hg : Gl X "range") (hm : X.mg "range" = none) (ha : SE X m a fa) (hb : SE X m b fb) (na : starEach [a, b] X.env = (false, eval a X.env) :: starEach [b] X.env := by rfl)
    (nb : starEach [b] X.env = (false, eval b X.env) :: starEach [] X.env := by rfl) : SI X bb false n tg (.Call (.Name "range" p) [a, b] [] pos) (rngL fa fb) :=
  ⟨⟨fun pins s σ H R I ⟨g, G, ss, sr, ds, s', Rr, ef, q⟩ => by
    obtain ⟨dx, s0, e0, ef⟩ := bnd_inv ef
    obtain ⟨dy, s1, e1, ef⟩ := bnd_inv ef
    refine (pi_range2 hg hm (pa_cons ha.pe (pa_cons hb.pe pa_nil nb) na) (by rw [na, nb]; rfl) (by rw [nb]; rfl)).run pins s σ H R I ⟨g, G, ss, sr, dx, s0, Rr, e0, fun v G0 H0 R0 A0 w0 => ⟨g, G0, ss, s0, dy, s1, Rr.ext A0 R0, e1, fun y G1 H1 R1 A1 w1 => ?_⟩⟩
    cases dx <;> try (cases ef; done)
    cases dy <;> try (cases ef; done)
    dsimp only at ef
    split at ef
    · rename_i z
      obtain ⟨e3, e4⟩ := ret_inv ef
      subst e4
      subst e3
      rw [Bool.and_eq_true] at z
      have w1' := wide_is z.1
      have w2' := wide_is z.2
      exact ⟨_, _, by rw [dInt R1.gh (w0.mono A1.g A1.h), dInt R1.gh w1], ⟨w1'.1, w1'.2, w2'.1, w2'.2⟩, q _ G1 H1 R1 (A0.trans R0 A1 ⟨_, R1⟩) itr_ok⟩
    · cases ef⟩⟩

/-! ### pairs -/
theorem itP_ok {K : PySem.W.Frag} {sa : List Addr} {G1 H1 : Hp} {N : Nat} {xs ys : Nat → Option V} {P : Hp → Prop} {ds : List D} (hn : ds.length = N)
    (hP : ∀ (g : Gh) G2 H2 s2, RelE g G2 H2 s2 → g.sa = sa → Same G1 G2 → (n ≠ 0 → Same H1 (msk sa H2)) → P H2)
    (hd : ∀ i d, ds[i]? = some d → ∃ x y dx dy, xs i = some x ∧ ys i = some y ∧ d = .tuple [dx, dy] ∧ View (n - 1) G1 H1 x dx ∧ View (n - 1) G1 H1 y dy) : ItOk true n sa (ItP N xs ys P) G1 H1 ds := by
  intro g2 G2 H2 s2 R2 sae kg kh
  have p2 := hP g2 G2 H2 s2 R2 sae kg kh
  refine ⟨⟨by omega, p2⟩, fun i d e => ?_⟩
  obtain ⟨x, y, dx, dy, e1, e2, e3, w1, w2⟩ := hd i d e
  have hi : i < N := by rw [← hn]; exact (List.getElem?_eq_some_iff.mp e).1
  refine ⟨⟨hi, p2⟩, fun v H3 q => ?_⟩
  obtain ⟨T, x', y', rfl, hT, rfl, f1, f2⟩ := q
  rw [e1] at f1; cases f1
  rw [e2] at f2; cases f2
  exact ⟨.inr ⟨T, _, hT, rfl⟩, T, x, y, dx, dy, rfl, upd_same, e3, w1.mono kg fun _ _ h => h, w2.mono kg fun _ _ h => h⟩
theorem si_enum {p pos : Pos} (hg : Gl X "enumerate") (hm : X.mg "enumerate" = none) (ha : SV X bb n a fa) (na : starEach [a] X.env = (false, eval a X.env) :: starEach [] X.env := by rfl) : SI X bb true n (.Tuple elts kk tpos) (.Call (.Name "enumerate" p) [a] [] pos) (enumL (seqL fa)) :=
  ⟨⟨fun pins s σ H R I ⟨g, G, ss, sr, ds, s', Rr, ef, q⟩ => by
    obtain ⟨es, s1, e1, ef⟩ := bnd_inv ef
    obtain ⟨d, s0, e0, ef1⟩ := bnd_inv e1
    obtain ⟨e2, e3⟩ := lft_inv ef1
    subst e3
    obtain ⟨e4, e5⟩ := ret_inv ef
    subst e5
    subst e4
    refine (pi_enumK hg hm (pa_cons ha.pe pa_nil na) na).run pins s σ H R I ⟨g, G, ss, sr, d, s', Rr, e0, fun v G1 H1 R1 A1 w1 => ?_⟩
    obtain ⟨k, a, vs, rfl, st⟩ := Sits.of w1 e2
    have hl := st.len
    refine ⟨k, a, vs, rfl, st.sq R1.gh (fun _ _ h => h) (fun _ => R1.vh bb), q _ G1 H1 R1 A1 (itP_ok (K := X.K) (by simp [hl]) (fun g2 G2 H2 s2 R2 sae kg kh => ?_) fun i d hd => ?_)⟩
    · have gh2 := R2.gh
      rw [sae] at gh2
      exact st.sq gh2 kg kh
    · rw [List.getElem?_map] at hd
      cases ez : es.zipIdx[i]? with
      | none => rw [ez] at hd; cases hd
      | some q =>
        rw [ez] at hd
        cases hd
        rw [List.getElem?_zipIdx] at ez
        cases ex : es[i]? with
        | none => rw [ex] at ez; cases ez
        | some x =>
          rw [ex] at ez
          cases ez
          have hi : i < vs.length := by rw [hl]; exact (List.getElem?_eq_some_iff.mp ex).1
          have hv : vs[i]? = some vs[i] := List.getElem?_eq_getElem hi
          refine ⟨_, _, _, _, rfl, hv, rfl, ?_, st.at (fun _ _ h => h) hv ex⟩
          rw [Nat.zero_add]
          exact View.of (.int _) _⟩⟩
theorem zip_at {A B : Type} {l : List A} {m : List B} {i : Nat} {q : A × B} (h : (l.zip m)[i]? = some q) : l[i]? = some q.1 ∧ m[i]? = some q.2 := by
  rw [List.getElem?_zip_eq_some] at h
  exact h
theorem si_zip {p pos : Pos} (hg : Gl X "zip") (hm : X.mg "zip" = none) (ha : SV X bb n a fa) (hb : SV X bb n b fb) (na : starEach [a, b] X.env = (false, eval a X.env) :: starEach [b] X.env := by rfl)
    (nb : starEach [b] X.env = (false, eval b X.env) :: starEach [] X.env := by rfl) (hpl : (backTo pos (starEach [b] X.env)).any (·.1) = false := by rfl) :
    SI X bb true n (.Tuple elts kk tpos) (.Call (.Name "zip" p) [a, b] [] pos) (zipL (seqL fa) (seqL fb)) :=
  ⟨⟨fun pins s σ H R I ⟨g, G, ss, sr, ds, s', Rr, ef, q⟩ => by
    obtain ⟨es, s1, e1, ef⟩ := bnd_inv ef
    obtain ⟨d, s0, e0, ef1⟩ := bnd_inv e1
    obtain ⟨e2, e3⟩ := lft_inv ef1
    subst e3
    obtain ⟨es2, s2, e1', ef⟩ := bnd_inv ef
    obtain ⟨d2, s0', e0', ef2⟩ := bnd_inv e1'
    obtain ⟨e2', e3⟩ := lft_inv ef2
    subst e3
    obtain ⟨e4, e5⟩ := ret_inv ef
    subst e5
    subst e4
    refine (pi_zipK hg hm (pa_cons ha.pe (pa_cons hb.pe pa_nil nb) na) na hpl).run pins s σ H R I ⟨g, G, ss, sr, d, s1, Rr, e0, fun v G0 H0 R0 A0 w0 => ⟨g, G0, ss, s1, d2, s', Rr.ext A0 R0, e0', fun v2 G1 H1 R1 A1 w1 => ?_⟩⟩
    obtain ⟨k, a, vs, rfl, st⟩ := Sits.of (w0.mono A1.g (A1.vh bb)) e2
    obtain ⟨k2, b, vs2, rfl, st2⟩ := Sits.of w1 e2'
    have hl := st.len
    have hl2 := st2.len
    refine ⟨k, k2, a, b, vs, vs2, rfl, ⟨st.sq R1.gh (fun _ _ h => h) (fun _ => R1.vh bb), st2.sq R1.gh (fun _ _ h => h) (fun _ => R1.vh bb)⟩, q _ G1 H1 R1 (A0.trans R0 A1 ⟨_, R1⟩) (itP_ok (K := X.K) (by simp [hl, hl2]) (fun g2 G2 H2 s2 R2 sae kg kh => ?_) fun i d hd => ?_)⟩
    · have gh2 := R2.gh
      rw [sae] at gh2
      exact ⟨st.sq gh2 kg kh, st2.sq gh2 kg kh⟩
    · rw [List.getElem?_map] at hd
      cases ez : (es.zip es2)[i]? with
      | none => rw [ez] at hd; cases hd
      | some q =>
        rw [ez] at hd
        cases hd
        obtain ⟨ex, ey⟩ := zip_at ez
        have hi : i < vs.length := by rw [hl]; exact (List.getElem?_eq_some_iff.mp ex).1
        have hi2 : i < vs2.length := by rw [hl2]; exact (List.getElem?_eq_some_iff.mp ey).1
        have hv : vs[i]? = some vs[i] := List.getElem?_eq_getElem hi
        have hv2 : vs2[i]? = some vs2[i] := List.getElem?_eq_getElem hi2
        exact ⟨_, _, _, _, hv, hv2, rfl, st.at (fun _ _ h => h) hv ex, st2.at (fun _ _ h => h) hv2 ey⟩⟩⟩
theorem si_zipS {p pos cp kp : Pos} {j : Nat} (hg : Gl X "zip") (hm : X.mg "zip" = none) (ha : SV X bb n a fa) (hb : SV X bb n b fb) (na : starEach [a, b] X.env = (false, eval a X.env) :: starEach [b] X.env := by rfl)
    (nb : starEach [b] X.env = (false, eval b X.env) :: starEach [] X.env := by rfl) (hs : backTo pos (starEach [a, b] X.env) = (false, eval a X.env) :: backTo pos (starEach [b] X.env) := by rfl) (hpl : (backTo pos (starEach [a, b] X.env)).any (·.1) = false := by rfl) :
    SI X bb true n (.Tuple elts kk tpos) (.Call (.Name "zip" p) [a, b] [⟨some "strict", .Constant (.bool true) j cp, kp⟩] pos) (zipSL (seqL fa) (seqL fb)) :=
  ⟨⟨fun pins s σ H R I ⟨g, G, ss, sr, ds, s', Rr, ef, q⟩ => by
    obtain ⟨es, s1, e1, ef⟩ := bnd_inv ef
    obtain ⟨d, s0, e0, ef1⟩ := bnd_inv e1
    obtain ⟨e2, e3⟩ := lft_inv ef1
    subst e3
    obtain ⟨es2, s2, e1', ef⟩ := bnd_inv ef
    obtain ⟨d2, s0', e0', ef2⟩ := bnd_inv e1'
    obtain ⟨e2', e3⟩ := lft_inv ef2
    subst e3
    split at ef
    case isFalse => cases ef
    rename_i hle
    obtain ⟨e4, e5⟩ := ret_inv ef
    subst e5
    subst e4
    refine (pi_zipS hg hm (pa_cons ha.pe (pa_cons hb.pe pa_nil nb) na) hs hpl).run pins s σ H R I ⟨g, G, ss, sr, d, s1, Rr, e0, fun v G0 H0 R0 A0 w0 => ⟨g, G0, ss, s1, d2, s', Rr.ext A0 R0, e0', fun v2 G1 H1 R1 A1 w1 => ?_⟩⟩
    obtain ⟨k, a, vs, rfl, st⟩ := Sits.of (w0.mono A1.g (A1.vh bb)) e2
    obtain ⟨k2, b, vs2, rfl, st2⟩ := Sits.of w1 e2'
    have hl := st.len
    have hl2 := st2.len
    refine ⟨k, k2, a, b, vs, vs2, rfl, ⟨st.sq R1.gh (fun _ _ h => h) (fun _ => R1.vh bb), st2.sq R1.gh (fun _ _ h => h) (fun _ => R1.vh bb)⟩, by omega, q _ G1 H1 R1 (A0.trans R0 A1 ⟨_, R1⟩) (itP_ok (K := X.K) (by simp [hl, hle]) (fun g2 G2 H2 s2 R2 sae kg kh => ?_) fun i d hd => ?_)⟩
    · have gh2 := R2.gh
      rw [sae] at gh2
      exact ⟨st.sq gh2 kg kh, st2.sq gh2 kg kh⟩
    · rw [List.getElem?_map] at hd
      cases ez : (es.zip es2)[i]? with
      | none => rw [ez] at hd; cases hd
      | some q =>
        rw [ez] at hd
        cases hd
        obtain ⟨ex, ey⟩ := zip_at ez
        have hi : i < vs.length := by rw [hl]; exact (List.getElem?_eq_some_iff.mp ex).1
        have hi2 : i < vs2.length := by rw [hl2]; exact (List.getElem?_eq_some_iff.mp ey).1
        have hv : vs[i]? = some vs[i] := List.getElem?_eq_getElem hi
        have hv2 : vs2[i]? = some vs2[i] := List.getElem?_eq_getElem hi2
        exact ⟨_, _, _, _, hv, hv2, rfl, st.at (fun _ _ h => h) hv ex, st2.at (fun _ _ h => h) hv2 ey⟩⟩⟩
end
end Ev
end

section
set_option linter.all false
set_option Elab.async false
set_option maxRecDepth 100000
/-! Targets, comprehensions. -/
namespace Ev
open PySem PyProof.Rows L2

/-! ### targets -/
def tTG (p : Bool) (n : Nat) (ix : List Nat) (t : Tg) : TG := fun v σ H Q => ∃ g G ss s d ss', Rel g G H σ ss s ∧ itemOk p n G g.B H v d ∧ t d ss = some ss' ∧
  ∀ σ', Rel g G H σ' ss' s → σ'.length = σ.length → (∀ i, i ∉ ix → σ'[i]? = σ[i]?) → Q σ' H
def tTGs (n : Nat) (ix : List Nat) (ts : List Tg) : TGs := fun vs σ H Q => ∃ g G ss s ds ss', Rel g G H σ ss s ∧ Fa (View n G g.B) vs ds ∧ tSeq ts ds ss = some ss' ∧
  ∀ σ', Rel g G H σ' ss' s → σ'.length = σ.length → (∀ i, i ∉ ix → σ'[i]? = σ[i]?) → Q σ' H
structure GT (X : Cx) (p : Bool) (n : Nat) (tg : Expr) (ix : List Nat) (t : Tg) : Prop where
  pg : PG X tg (tTG p n ix t)
structure GTs (X : Cx) (n : Nat) (tg : List Expr) (ix : List Nat) (t : List Tg) : Prop where
  pgs : PGs X tg (tTGs n ix t)
section
variable {X : Cx} {p : Bool} {n : Nat} {ix ix2 : List Nat} {pos : Pos} {e : Expr} {es : List Expr} {t : Tg} {ts : List Tg}
theorem gt_name {i : Nat} {x : Str} (hN : X.N.Nodup) (hi : X.N[i]? = some x) (hx : Loc X.env.scope x) (hf : X.fn x = true ∨ X.env.scope.names.lookup x = some .local := by first | exact .inl rfl | exact .inr rfl | assumption) : GT X false n (.Name x pos) [i] (tName n i) :=
  ⟨⟨fun pins s σ H v u Q I r ⟨g, G, ss, sr, d, ss', R, w, et, q⟩ => (pg_name hN hi hx hf).run pins s σ H v u Q I r (by
    cases et
    exact q _ (R.put w) (List.length_set) fun j hj => List.getElem?_set_ne fun z => hj (by rw [z]; exact List.mem_singleton.mpr rfl))⟩⟩
theorem gts_nil : GTs X n [] [] [] := ⟨⟨fun pins s σ H vs us Q I r ⟨g, G, ss, sr, ds, ss', R, w, et, q⟩ => pgs_nil.run pins s σ H vs us Q I r (by
  cases w with
  | nil => cases et; exact ⟨rfl, q σ R rfl fun _ _ => rfl⟩
  | cons _ _ => cases et)⟩⟩
theorem gts_cons (h1 : GT X false n e ix t) (h2 : GTs X n es ix2 ts) (hs : (assignEach (e :: es) X.env).map (·.2) = assign e X.env :: (assignEach es X.env).map (·.2) := by rfl) : GTs X n (e :: es) (ix ++ ix2) (t :: ts) :=
  ⟨⟨fun pins s σ H vs us Q I r ⟨g, G, ss, sr, ds, ss', R, w, et, q⟩ => (pgs_cons h1.pg h2.pgs hs).run pins s σ H vs us Q I r (by
    cases w with
    | nil => cases et
    | @cons v vs d ds a b =>
      have et' : (t d ss).bind (fun ss' => tSeq ts ds ss') = some ss' := et
      cases e1 : t d ss with
      | none => rw [e1] at et'; cases et'
      | some ss1 =>
        rw [e1] at et'
        refine ⟨v, vs, rfl, g, G, ss, sr, d, ss1, R, a, e1, fun σ1 R1 l1 k1 => ⟨g, G, ss1, sr, ds, ss', R1, b, et', fun σ2 R2 l2 k2 => q σ2 R2 (l2.trans l1) fun i hi => ?_⟩⟩
        rw [k2 i fun z => hi (List.mem_append_right _ z), k1 i fun z => hi (List.mem_append_left _ z)])⟩⟩
theorem gt_tup {k : Nat} (hc : X.calm = true) (h : GTs X n es ix ts) (hn : (assignEach es X.env).length = ts.length := by rfl) (hst : (assignEach es X.env).findIdx? (·.1) = none := by rfl) : GT X p n (.Tuple es k pos) ix (tTup ts) :=
  ⟨⟨fun pins s σ H v u Q I r ⟨g, G, ss, sr, d, ss', R, w, et, q⟩ => (pg_tup hc h.pgs hn hst).run pins s σ H v u Q I r (by
    unfold tTup at et
    split at et
    case h_2 => cases et
    rename_i ds
    have tl : ∀ (ts : List Tg) (ds : List D) (ss ss' : Slots), tSeq ts ds ss = some ss' → ds.length = ts.length := by
      intro ts
      induction ts with
      | nil => intro ds ss ss' h; cases ds with
        | nil => rfl
        | cons _ _ => cases h
      | cons t ts ih => intro ds ss ss' h; cases ds with
        | nil => cases h
        | cons d ds =>
          have h' : (t d ss).bind (fun ss' => tSeq ts ds ss') = some ss' := h
          cases e1 : t d ss with
          | none => rw [e1] at h'; cases h'
          | some ss1 => rw [e1] at h'; exact congrArg (· + 1) (ih ds ss1 ss' h')
    have hl := tl ts ds ss ss' et
    cases p with
    | false =>
      have w' := View.tuple (show View n G g.B v (.tuple ds) from w)
      cases w' with
      | tup hh _ l =>
        refine ⟨_, _, rfl, .inl (.inr ⟨_, (msk_some (R.e.gh _ _ hh)).2⟩), by rw [l.length, hl], g, G, ss, sr, ds, ss', R, (Fa.of l).imp fun v d q => View.of q n, et, q⟩
    | true =>
      obtain ⟨T, x, y, dx, dy, rfl, hT, ed, w1, w2⟩ := w
      cases ed
      exact ⟨T, [x, y], rfl, .inl (.inl hT), hl, g, G, ss, sr, _, ss', R, .cons w1 (.cons w2 .nil), et, q⟩)⟩⟩
end

/-! ### the heap lent on -/
theorem Rel.lend {g : Gh} {G H : Hp} {σ : L2.St} {ss : Slots} {s : Src} (r : Rel g G H σ ss s) : Rel { g with B := msk g.sa H } G H σ ss s := by
  obtain ⟨F, f⟩ := r.f
  refine ⟨⟨r.e.gh, fun _ _ h => h, r.e.g0, r.e.new, r.e.old, r.e.src⟩, r.len, F, ⟨fun i => ?_, f.nd, f.out, f.dis⟩⟩
  have := f.ok i
  cases e : ss[i]? with
  | none => rw [e] at this; exact this
  | some sl =>
    rw [e] at this
    cases sl with
    | vw n d => obtain ⟨v, h1, h2, h3⟩ := this; exact ⟨v, h1, h2.mono (fun _ _ h => h) r.e.bh, h3⟩
    | _ => exact this
theorem RelE.back {g : Gh} {G H G' H' : Hp} {s s' : Src} (r : RelE g G H s) (a : Adv g.sa G H G' H') (r' : RelE { g with B := msk g.sa H } G' H' s') : RelE g G' H' s' :=
  ⟨r'.gh, fun x o h => a.h x o (r.bh x o h), r'.g0, r'.new, r'.old, r'.src⟩
theorem RelE.write {g : Gh} {G H : Hp} {s : Src} {D : Addr} {o : HO} (r : RelE g G H s) (h1 : G D = none) (h2 : g.B D = none) (h3 : D ∉ g.sa) : RelE g G (upd H D o) s := by
  refine ⟨fun a u h => ?_, fun a u h => ?_, r.g0, r.new, fun a ha => ?_, r.src.keep fun a ha => ?_⟩
  · obtain ⟨k1, k2⟩ := msk_some (r.gh a u h)
    rw [msk_out k1, upd_ne (fun z => by rw [z, h1] at h; cases h)]
    exact k2
  · obtain ⟨k1, k2⟩ := msk_some (r.bh a u h)
    rw [msk_out k1, upd_ne (fun z => by rw [z, h2] at h; cases h)]
    exact k2
  · by_cases e : a = D
    · rw [e, upd_same]; exact fun z => by cases z
    · rw [upd_ne e]; exact r.old a ha
  · exact upd_ne fun z => h3 (by rw [← z]; exact ha)
theorem Adv.on {g : Gh} {B G H G1 H1 G2 H2 : Hp} {s s2 : Src} (a : Adv g.sa G H G1 H1) (r : RelE { g with B := B } G1 H1 s) (b : Adv g.sa G1 H1 G2 H2) (r2 : RelE { g with B := B } G2 H2 s2) : Adv g.sa G H G2 H2 :=
  Adv.trans (g := { g with B := B }) a r b ⟨s2, r2⟩
theorem Adv.at {sa : List Addr} {G H G' H' : Hp} {a : Addr} {o : HO} (x : Adv sa G H G' H') (n : a ∉ sa) (h : H a = some o) : H' a = some o := by
  have := x.h a o (by rw [msk_out n]; exact h)
  rw [msk_out n] at this
  exact this
theorem Adv.off {sa : List Addr} {G H G' H' : Hp} {a : Addr} {o : HO} (x : Adv sa G H G' H') (n : G a = none) (h : H a = some o) : G' a = none := by
  cases e : G' a with
  | none => rfl
  | some u =>
    rcases x.new a (by rw [e]; exact fun z => by cases z) with z | z
    · exact absurd n z
    · rw [h] at z; cases z
theorem RelE.off {g : Gh} {G H : Hp} {s : Src} {a : Addr} (r : RelE g G H s) (h : H a = none) : G a = none := by
  cases e : G a with
  | none => rfl
  | some u => have := (msk_some (r.gh a u e)).2; rw [h] at this; cases this
theorem RelE.ext {g : Gh} {G H H' : Hp} {s : Src} (r : RelE g G H s) (e : ExtH H H') : RelE g G H' s ∧ Adv g.sa G H G H' := by
  rcases e with rfl | ⟨T, o, hT, rfl⟩
  · exact ⟨r, Adv.refl _ _ _⟩
  · exact r.laid hT
theorem wipe_get (σ : L2.St) (i : Nat) : ∀ vs : List Nat, (wipe σ vs)[i]? = if i ∈ vs then (if i < σ.length then some none else none) else σ[i]?
  | [] => by simp [wipe]
  | j :: vs => by
    have ih := wipe_get σ i vs
    unfold wipe
    rw [List.getElem?_set]
    by_cases e : j = i
    · subst e
      rw [if_pos rfl, if_pos List.mem_cons_self, wipe_length]
    · have : (i ∈ j :: vs) ↔ i ∈ vs := by
        rw [List.mem_cons]
        exact ⟨fun h => h.elim (fun z => absurd z.symm e) id, .inr⟩
      rw [if_neg e, ih]
      simp only [this]
theorem wipe_eq {σ σ2 : L2.St} {vs ix : List Nat} (hl : σ2.length = (wipe σ vs).length) (k : ∀ i, i ∉ ix → σ2[i]? = (wipe σ vs)[i]?) (h : ∀ i ∈ ix, i ∈ vs) : wipe σ2 vs = wipe σ vs := by
  refine List.ext_getElem? fun i => ?_
  rw [wipe_get, wipe_get, hl, wipe_length]
  by_cases e : i ∈ vs
  · rw [if_pos e, if_pos e]
  · rw [if_neg e, if_neg e, k i fun z => e (h i z), wipe_get, if_neg e]

/-! ### the tests of a comprehension -/
structure STs (X : Cx) (es : List Expr) (f : EvT) : Prop where
  pt : PTs X es (tT f)
section
variable {X : Cx} {e c c2 : Expr} {f f2 : EvT}
theorem sts_nil : STs X [] yes := ⟨⟨fun pins s σ H Q I ⟨g, G, ss, sr, b, s', R, e, q⟩ => pts_nil.run pins s σ H Q I (by
  obtain ⟨e1, e2⟩ := ret_inv (show ret true sr = some (b, s') from e)
  subst e2; subst e1
  exact q G H R.e (Adv.refl _ _ _))⟩⟩
theorem sts_one (h : ST X c f) : STs X [c] f := ⟨pts_one h.pt⟩
end

theorem itemOk.seen {p : Bool} {n : Nat} {G B B' H : Hp} {v : V} {d : D} (h : itemOk p n G B H v d) (k : Same B B') : itemOk p n G B' H v d := by
  cases p with
  | false => exact View.mono (fun _ _ h => h) k (show View n G B v d from h)
  | true =>
    obtain ⟨T, x, y, dx, dy, e1, e2, e3, w1, w2⟩ := h
    exact ⟨T, x, y, dx, dy, e1, e2, e3, w1.mono (fun _ _ h => h) k, w2.mono (fun _ _ h => h) k⟩
/-! ### [e for t in src if c] -/
abbrev Blk (P : Cx → Prop) (X : Cx) (scope : Scope) : Prop := ∀ (s : Shared) (H : Hp) (C : Addr) (cl : List (Str × Addr)) (fp : List Addr), P (X.blk s H scope (compEnvC scope cl C X.env) fp)
theorem lc_fin {bb p : Bool} {n : Nat} {fl : EvL} {ix vs : List Nat} {t : Tg} {c : EvT} {fe : EvE} {σ : L2.St} {H : Hp} {Q : VK} (hix : ∀ i ∈ ix, i ∈ vs)
    (h : tF 1 (compE (comp vs fl t c fe)) σ H Q) : tLc (tI bb p n fl) (tTG p (n - 1) ix t) (tT c) (tE 0 fe) vs σ H Q := by
  obtain ⟨g, G, ss, s, d, s', R, ef, q⟩ := h
  obtain ⟨ys, s2, e1, ef⟩ := bnd_inv ef
  obtain ⟨e3, e4⟩ := ret_inv ef
  subst e4
  subst e3
  obtain ⟨xs, s1, ex, ef⟩ := bnd_inv e1
  obtain ⟨ys', s2, em, ef⟩ := bnd_inv ef
  split at ef
  case isFalse => cases ef
  rename_i hlen
  obtain ⟨e3, e4⟩ := ret_inv ef
  subst e4
  subst e3
  refine ⟨g, G, ss, s, xs, s1, R, ex, fun J G1 H1 R1 A1 it D hD => ?_⟩
  have Rl := ((R.ext A1 R1).weak vs (σ' := wipe σ vs) (wipe_length σ vs) fun i hi => wipe_out hi).lend
  have nD : D ∉ g.sa := fun z => R1.src.there D z hD
  have gD := R1.off hD
  have bD : msk g.sa H1 D = none := by rw [msk_out nD]; exact hD
  generalize hF : (fun x => match t x (wipeS ss vs) with
    | some ss1 => bnd (c ss1) fun k => if k then bnd (fe ss1) fun y => ret (some y) else ret none
    | none => stop) = F at em
  let P : Nat → Hp → Prop := fun i H => ∃ G2 s2 acc done rest, RelE { g with B := msk g.sa H1 } G2 H s2 ∧ Adv g.sa G1 H1 G2 H ∧ H D = some (.lst acc) ∧ G2 D = none ∧ DatL G2 acc done ∧ mapF F (xs.drop i) s2 = some (rest, s') ∧ done ++ rest = ys
  obtain ⟨L1, L2⟩ := Rl.e.laid (o := .lst []) hD
  refine ⟨fun i m H => m = xs.length - i ∧ i ≤ xs.length ∧ P i H, ⟨xs.length, by simp, Nat.zero_le _, G1, s1, [], [], ys, L1, L2, upd_same, gD, .nil, em, rfl⟩, ?_⟩
  rintro i m H2 ⟨rfl, hi, G2, s2, acc, done, rest, R2, A2, hD2, gD2, l, em2, hys⟩
  obtain ⟨st, go⟩ := it _ G2 H2 s2 R2 rfl A2.g fun _ a u h => A2.h a u (R1.vh bb a u h)
  by_cases hlt : i < xs.length
  · right
    have hx : xs[i]? = some xs[i] := List.getElem?_eq_getElem hlt
    obtain ⟨g1, y1⟩ := go i _ hx
    refine ⟨g1, P (i + 1), fun H' p' => ⟨xs.length - (i + 1), by omega, rfl, hlt, p'⟩, fun x H3 y => ?_⟩
    obtain ⟨e3, ok⟩ := y1 x H3 y
    obtain ⟨R3, A3⟩ := R2.ext e3
    rw [List.drop_eq_getElem_cons hlt] at em2
    obtain ⟨o, s3, eo, em3⟩ := bnd_inv em2
    obtain ⟨r, s4, er, em4⟩ := bnd_inv em3
    obtain ⟨e5, e6⟩ := ret_inv em4
    subst e6
    rw [← hF] at eo
    dsimp only at eo
    cases et : t xs[i] (wipeS ss vs) with
    | none => rw [et] at eo; cases eo
    | some ss1 =>
    rw [et] at eo
    obtain ⟨k, s5, ek, eo⟩ := bnd_inv eo
    refine ⟨{ g with B := msk g.sa H1 }, G2, wipeS ss vs, s2, xs[i], ss1, Rl.ext (A2.on R2 A3 R3) R3, ok.seen (R1.vh bb), et, fun σ2 Q2 hl2 out => ⟨wipe_eq hl2 out hix, { g with B := msk g.sa H1 }, G2, ss1, s2, k, s5, Q2, ek, fun G4 H4 R4 A4 => ?_⟩⟩
    have d3 := A3.at nD hD2
    have d4 := A4.at nD d3
    have f4 := A4.off (A3.off gD2 hD2) d3
    have AA := (A2.on R2 A3 R3).on R3 A4 R4
    cases k with
    | false =>
      obtain ⟨e7, e8⟩ := ret_inv (show ret none s5 = some (o, s3) from eo)
      subst e8
      subst e7
      subst e5
      exact ⟨G4, _, acc, done, _, R4, AA, d4, f4, l.mono A4.g, er, hys⟩
    | true =>
      obtain ⟨dy, s6, ey, eo⟩ := bnd_inv (show bnd (fe ss1) (fun y => ret (some y)) s5 = some (o, s3) from eo)
      obtain ⟨e7, e8⟩ := ret_inv eo
      subst e8
      subst e7
      subst e5
      refine ⟨{ g with B := msk g.sa H1 }, G4, ss1, s5, dy, _, Q2.ext A4 R4, ey, fun v G5 H5 R5 A5 w5 => ⟨acc, A5.at nD d4, ?_, ?_⟩⟩
      · have h1 := l.length
        have h2 := congrArg List.length hys
        rw [List.length_append, List.length_cons] at h2
        rw [← lim_eq]
        omega
      · have f5 := A5.off f4 d4
        have AB := AA.on R4 A5 R5
        refine ⟨G5, _, acc ++ [v], done ++ [dy], r, R5.write f5 bD nD, ⟨AB.g, fun a u h => ?_, AB.new⟩, upd_same, f5, (l.mono (fun a u h => A5.g a u (A4.g a u h))).snoc w5, er, by rw [← hys, List.append_assoc]; rfl⟩
        have h1 := msk_some h
        rw [msk_out h1.1, upd_ne (fun z => by rw [z, hD] at h1; cases h1.2)]
        exact (msk_some (AB.h a u h)).2
  · left
    have e : i = xs.length := by omega
    subst e
    rw [List.drop_length] at em2
    obtain ⟨e7, e8⟩ := ret_inv (show ret [] s2 = some (rest, s') from em2)
    subst e8
    subst e7
    rw [List.append_nil] at hys
    subst hys
    have R3 := R1.back A2 R2
    refine ⟨st, q (.ref D) G2 H2 [D] R3 (A1.trans R1 A2 ⟨_, R3⟩) (.inl ⟨D, acc, done, [], rfl, rfl, hD2, OwnL.of_dat l, rfl⟩) (Fresh.back A1 R1 R.e.src.there ⟨by simp, fun x hx => ?_⟩)⟩
    obtain rfl := List.mem_singleton.mp hx
    exact ⟨hD, gD2⟩
section
variable {X : Cx} {bb p : Bool} {n : Nat} {elt tg iter : Expr} {ifs : List Expr} {scope : Scope} {own : List (Str × Nat)} {pos : Pos} {ix : List Nat} {t : Tg} {c : EvT} {fe : EvE} {fl : EvL}
theorem sf_lc (hc : X.calm = true) (hN : X.N.Nodup) (hi : SI X bb p n tg iter fl) (ok : BlkOk X.N X.env.scope scope own) (hg : Blk (fun Y => GT Y p (n - 1) tg ix t) X scope) (ht : Blk (fun Y => STs Y ifs c) X scope) (he : Blk (fun Y => SE Y 0 elt fe) X scope)
    (hix : ∀ i ∈ ix, i ∈ own.map (·.2)) (hs : ∀ x, foldedSetIterable iter X.env x = pure x := by intro _; rfl) : SF X 1 (.ListComp elt [⟨tg, iter, ifs, 0⟩] scope pos) (compE (comp (own.map (·.2)) fl t c fe)) :=
  ⟨peMono (pe_lc hc hN hi.pi ok (fun s H C cl fp => (hg s H C cl fp).pg) (fun s H C cl fp => (ht s H C cl fp).pt) (fun s H C cl fp => (he s H C cl fp).pe) hs) fun σ H Q h => lc_fin hix h⟩
end
end Ev
end

section
set_option linter.all false
set_option Elab.async false
set_option maxRecDepth 100000
/-! Statements. -/
namespace Ev
open PySem PyProof.Rows L2

theorem Same.trans {A B C : Hp} (h : Same A B) (k : Same B C) : Same A C := fun a o e => k a o (h a o e)
theorem Same.rfl {A : Hp} : Same A A := fun _ _ h => h
theorem OutOk.later {g : Gh} {G G1 : Hp} {D : Ends} {s' : Src} {o : Out} (h : OutOk g G D s' o) (k : Same G G1) : OutOk g G1 D s' o := by
  cases o with
  | nx ss => exact fun σ G' H' r k' => h σ G' H' r (Same.trans k k')
  | bk ss => exact fun σ G' H' r k' => h σ G' H' r (Same.trans k k')
  | ct ss => exact fun σ G' H' r k' => h σ G' H' r (Same.trans k k')
  | rt d => exact fun v G' H' r k' => h v G' H' r (Same.trans k k')

/-! ### our own lists -/
theorem Rel.own1o {g : Gh} {G H : Hp} {σ : L2.St} {ss : Slots} {s : Src} {i : Nat} {ds : List D} (r : Rel g G H σ ss s) (wf : g.Wf) (e : ss[i]? = some (.own 1 (.list ds))) :
    ∃ p vs, ¬ g.Old p ∧ σ[i]? = some (some (.ref p)) ∧ H p = some (.lst vs) ∧ DatL G vs ds ∧ ∀ vs' ds', DatL G vs' ds' → Rel g G (upd H p (.lst vs')) σ (ss.set i (.own 1 (.list ds'))) s := by
  obtain ⟨F, f⟩ := r.f
  have ok := f.ok i
  rw [e] at ok
  obtain ⟨v, ev, w⟩ := ok
  rcases w with ⟨p, vs, ds0, F', rfl, ed, hp, l, eF⟩ | ⟨p, kvs, ks, vs, e1, e2, h, e3, l, e4⟩
  case inr => cases e2
  cases ed
  obtain ⟨rfl, l1⟩ := l.nil_of
  have hF : p ∈ F i := by rw [eF]; exact List.mem_cons_self
  obtain ⟨o1, o2, o3⟩ := f.out i p hF
  have bp : g.B p = none := by
    cases q : g.B p with
    | none => rfl
    | some u => exact absurd (wf p (by rw [q]; exact fun z => by cases z)) o3
  have hi : i < ss.length := (List.getElem?_eq_some_iff.mp e).1
  refine ⟨p, vs, o3, ev, hp, l1, fun vs' ds' l' => ⟨r.e.write o1 bp o2, by rw [List.length_set]; exact r.len, F, ⟨fun j => ?_, f.nd, f.out, f.dis⟩⟩⟩
  by_cases ej : j = i
  · subst ej
    rw [List.getElem?_set_self hi, eF]
    exact ⟨_, ev, .inl ⟨p, vs', ds', [], rfl, rfl, upd_same, OwnL.of_dat l', rfl⟩⟩
  · rw [List.getElem?_set_ne (Ne.symm ej)]
    exact (f.ok j).keep (fun _ _ h => h) fun q hq => upd_ne fun z => ej (f.dis j i p (by rw [← z]; exact hq) hF)
theorem Rel.own1 {g : Gh} {G H : Hp} {σ : L2.St} {ss : Slots} {s : Src} {i : Nat} {ds : List D} (r : Rel g G H σ ss s) (wf : g.Wf) (e : ss[i]? = some (.own 1 (.list ds))) :
    ∃ p vs, σ[i]? = some (some (.ref p)) ∧ H p = some (.lst vs) ∧ DatL G vs ds ∧ ∀ vs' ds', DatL G vs' ds' → Rel g G (upd H p (.lst vs')) σ (ss.set i (.own 1 (.list ds'))) s := by
  obtain ⟨p, vs, _, h⟩ := r.own1o wf e
  exact ⟨p, vs, h⟩
/-- given out for good -/
theorem Rel.frz {g : Gh} {G H : Hp} {σ : L2.St} {ss : Slots} {s : Src} {i n : Nat} {d : D} (r : Rel g G H σ ss s) (e : ss[i]? = some (.own n d)) :
    ∃ G', Rel g G' H σ (ss.set i (.vw 0 d)) s ∧ Same G G' := by
  obtain ⟨F, f⟩ := r.f
  have ok := f.ok i
  rw [e] at ok
  obtain ⟨v, ev, w⟩ := ok
  have hi : i < ss.length := (List.getElem?_eq_some_iff.mp e).1
  have sm : Same G (glue G H (F i)) := fun x o h => by
    rw [glue_out (fun z => by rw [(f.out i x z).1] at h; cases h)]
    exact h
  refine ⟨glue G H (F i), ⟨⟨fun x o h => ?_, r.e.bh, Same.trans r.e.g0 sm, fun x h => ?_, r.e.old, r.e.src⟩, by rw [List.length_set]; exact r.len, fun j => if j = i then [] else F j, ⟨fun j => ?_, fun j => ?_, fun j p hp => ?_, fun j k p hj hk => ?_⟩⟩, sm⟩
  · by_cases z : x ∈ F i
    · rw [glue_in z] at h
      rw [msk_out (f.out i x z).2.1]
      exact h
    · rw [glue_out z] at h
      exact r.e.gh x o h
  · by_cases z : x ∈ F i
    · exact .inr (f.out i x z).2.2
    · rw [glue_out z] at h
      exact r.e.new x h
  · by_cases ej : j = i
    · subst ej
      rw [if_pos rfl, List.getElem?_set_self hi]
      exact ⟨v, ev, (w.dat sm fun p hp => glue_in hp), rfl⟩
    · rw [if_neg ej, List.getElem?_set_ne (Ne.symm ej)]
      exact (f.ok j).keep sm fun _ _ => rfl
  · split
    · exact List.nodup_nil
    · exact f.nd j
  · split at hp
    · cases hp
    · rename_i ej
      obtain ⟨h1, h2⟩ := f.out j p hp
      refine ⟨?_, h2⟩
      rw [glue_out (fun z => ej (f.dis j i p hp z))]
      exact h1
  · split at hj
    · cases hj
    · split at hk
      · cases hk
      · exact f.dis j k p hj hk

section
variable {X : Cx} {p : Bool} {n m k i j : Nat} {e c : Expr} {a b : List Stmt} {st : Stmt} {rest : List Stmt} {f fe : EvE} {fc : EvT} {fs fr fa fb : EvS} {x y : Str} {pos px ps : Pos}

/-! ### blocks -/
theorem sb_nil : SB X [] pass := ⟨pssMono pss_nil fun D σ H ⟨g, G, ss, s, o, s', wf, R, ef, q⟩ => by
  obtain ⟨e1, e2⟩ := ret_inv ef
  subst e1; subst e2
  exact q σ G H R Same.rfl⟩
theorem sb_cons (h1 : SS X st fs) (h2 : SB X rest fr) : SB X (st :: rest) (seq fs fr) := ⟨pssMono (pss_cons h1.ps h2.ps) fun D σ H ⟨g, G, ss, s, o, s', wf, R, ef, q⟩ => by
  obtain ⟨o1, s1, e1, ef⟩ := bnd_inv ef
  refine ⟨g, G, ss, s, o1, s1, wf, R, e1, ?_⟩
  cases o1 with
  | nx ss1 => exact fun σ' G' H' R' k => ⟨g, G', ss1, s1, o, s', wf, R', ef, q.later k⟩
  | bk ss1 => obtain ⟨e2, e3⟩ := ret_inv ef; subst e2; subst e3; exact q
  | ct ss1 => obtain ⟨e2, e3⟩ := ret_inv ef; subst e2; subst e3; exact q
  | rt d => obtain ⟨e2, e3⟩ := ret_inv ef; subst e2; subst e3; exact q⟩
/-- our own list counts to what stands still from here on -/
theorem sb_frz (h : SB X rest fr) : SB X rest (seq (frz i) fr) := ⟨pssMono h.ps fun D σ H ⟨g, G, ss, s, o, s', wf, R, ef, q⟩ => by
  obtain ⟨o1, s1, e1, ez⟩ := bnd_inv ef
  unfold frz at e1
  cases e : ss[i]? with
  | none => rw [e] at e1; cases e1
  | some sl =>
    rw [e] at e1
    cases sl with
    | own n d =>
      obtain ⟨e2, e3⟩ := ret_inv e1
      subst e2; subst e3
      obtain ⟨G', R', k⟩ := R.frz e
      exact ⟨g, G', _, _, o, s', wf, R', ez, q.later k⟩
    | vw n d =>
      cases n with
      | zero =>
        obtain ⟨e2, e3⟩ := ret_inv e1
        subst e2; subst e3
        exact ⟨g, G, _, _, o, s', wf, R, ez, q⟩
      | succ n => cases e1
    | _ => cases e1⟩
theorem sb_kill {is : List Nat} (h : SB X rest fr) : SB X rest (seq (kill is) fr) := ⟨pssMono h.ps fun D σ H ⟨g, G, ss, s, o, s', wf, R, ef, q⟩ => by
  obtain ⟨o1, s1, e1, ef⟩ := bnd_inv ef
  obtain ⟨e2, e3⟩ := ret_inv e1
  subst e2; subst e3
  exact ⟨g, G, _, _, o, s', wf, R.weak is rfl fun _ _ => rfl, ef, q⟩⟩

/-! ### plain -/
theorem ss_pass : SS X (.Pass pos) pass := ⟨psMono ps_pass fun D σ H ⟨g, G, ss, s, o, s', wf, R, ef, q⟩ => by
  obtain ⟨e1, e2⟩ := ret_inv ef
  subst e1; subst e2
  exact q σ G H R Same.rfl⟩
theorem ss_brk : SS X (.Break pos) brk := ⟨psMono ps_break fun D σ H ⟨g, G, ss, s, o, s', wf, R, ef, q⟩ => by
  obtain ⟨e1, e2⟩ := ret_inv ef
  subst e1; subst e2
  exact q σ G H R Same.rfl⟩
theorem ss_cnt : SS X (.Continue pos) cnt := ⟨psMono ps_continue fun D σ H ⟨g, G, ss, s, o, s', wf, R, ef, q⟩ => by
  obtain ⟨e1, e2⟩ := ret_inv ef
  subst e1; subst e2
  exact q σ G H R Same.rfl⟩
theorem ss_ret (h : SE X 0 e f) : SS X (.Return (some e) pos) (retS f) := ⟨psMono (ps_ret h.pe) fun D σ H ⟨g, G, ss, s, o, s', wf, R, ef, q⟩ => by
  obtain ⟨d, s1, e1, ef⟩ := bnd_inv ef
  obtain ⟨e2, e3⟩ := ret_inv ef
  subst e2; subst e3
  exact ⟨g, G, ss, s, d, _, R, e1, fun v G' H' R' A' w => q v G' H' R' A'.g w⟩⟩
theorem ss_drop (h : SE X n e f) (hs : swapsWith e none pos.line X.env = pure false := by rfl) : SS X (.Expr e pos) (dropS f) := ⟨psMono (ps_expr h.pe hs) fun D σ H ⟨g, G, ss, s, o, s', wf, R, ef, q⟩ => by
  obtain ⟨d, s1, e1, ef⟩ := bnd_inv ef
  obtain ⟨e2, e3⟩ := ret_inv ef
  subst e2; subst e3
  exact ⟨g, G, ss, s, d, _, R, e1, fun v G' H' R' A' w => q σ G' H' (R.ext A' R') A'.g⟩⟩
theorem ss_if (hc : ST X c fc) (ha : SB X a fa) (hb : SB X b fb) : SS X (.If c a b pos) (ifS fc fa fb) := ⟨psMono (ps_if hc.pt ha.ps hb.ps) fun D σ H ⟨g, G, ss, s, o, s', wf, R, ef, q⟩ => by
  obtain ⟨k, s1, e1, ef⟩ := bnd_inv ef
  refine ⟨g, G, ss, s, k, s1, R, e1, fun G' H' R' A' => ?_⟩
  cases k with
  | true => exact ⟨g, G', ss, s1, o, s', wf, R.ext A' R', ef, q.later A'.g⟩
  | false => exact ⟨g, G', ss, s1, o, s', wf, R.ext A' R', ef, q.later A'.g⟩⟩

/-! ### assignments -/
theorem ss_set (hN : X.N.Nodup) (hi : X.N[i]? = some x) (hx : Loc X.env.scope x) (h : SE X 0 e f) (hs : swapsWith e (some (.Name x px)) pos.line X.env = pure false := by rfl) (hf : X.fn x = true ∨ X.env.scope.names.lookup x = some .local := by first | exact .inl rfl | exact .inr rfl | assumption) :
    SS X (.Assign [.Name x px] e pos) (setS i f) := ⟨psMono (ps_set hN hi hx h.pe hs hf) fun D σ H ⟨g, G, ss, s, o, s', wf, R, ef, q⟩ => by
  obtain ⟨d, s1, e1, ef⟩ := bnd_inv ef
  obtain ⟨e2, e3⟩ := ret_inv ef
  subst e2; subst e3
  exact ⟨g, G, ss, s, d, _, R, e1, fun v G' H' R' A' w => q _ G' H' ((R.ext A' R').put (n := 0) w) A'.g⟩⟩
theorem Rel.putNew {g : Gh} {G H G' H' : Hp} {σ : L2.St} {ss : Slots} {s s' : Src} {i k : Nat} {v : V} {d : D} {F : List Addr} (r : Rel g G H σ ss s) (R' : RelE g G' H' s') (A : Adv g.sa G H G' H') (w : Own k G' H' v d F) (fr : Fresh g.sa H G' F) :
    Rel g G' H' (σ.set i (some v)) (ss.set i (.own k d)) s' := by
  have r' := r.ext A R'
  obtain ⟨F0, f0⟩ := r.f
  have kp : ∀ i p, p ∈ F0 i → H' p = H p := fun i p hp => by
    cases q : H p with
    | none => exact absurd q ((f0.ok i).there p hp)
    | some o => exact A.at (f0.out i p hp).2.1 q
  have f : RelF g G' H' σ ss F0 := by
    refine ⟨fun i => (f0.ok i).keep A.g fun p hp => kp i p hp, f0.nd, fun i p hp => ⟨?_, (f0.out i p hp).2⟩, f0.dis⟩
    cases q : H p with
    | none => exact absurd q ((f0.ok i).there p hp)
    | some o => exact A.off (f0.out i p hp).1 q
  refine ⟨R', by rw [List.length_set, List.length_set]; exact r.len, f.put r.len ⟨v, rfl, w⟩ fr.nd (fun p hp => ⟨(fr.new p hp).2, fun z => r.e.src.there p z (fr.new p hp).1, fun z => r.e.old p z (fr.new p hp).1⟩) fun j _ p hp hj => ?_⟩
  exact (f0.ok j).there p hj (fr.new p hp).1
theorem ss_new (hN : X.N.Nodup) (hi : X.N[i]? = some x) (hx : Loc X.env.scope x) (h : SF X k e f) (hs : swapsWith e (some (.Name x px)) pos.line X.env = pure false := by rfl) (hf : X.fn x = true ∨ X.env.scope.names.lookup x = some .local := by first | exact .inl rfl | exact .inr rfl | assumption) :
    SS X (.Assign [.Name x px] e pos) (newS k i f) := ⟨psMono (ps_set hN hi hx h.pe hs hf) fun D σ H ⟨g, G, ss, s, o, s', wf, R, ef, q⟩ => by
  obtain ⟨d, s1, e1, ef⟩ := bnd_inv ef
  obtain ⟨e2, e3⟩ := ret_inv ef
  subst e2; subst e3
  exact ⟨g, G, ss, s, d, _, R, e1, fun v G' H' F R' A' w fr => q _ G' H' (R.putNew R' A' w fr) A'.g⟩⟩
theorem itemOk0 {p : Bool} {G B B' H : Hp} {v : V} {d : D} (h : itemOk p 0 G B H v d) : itemOk p 0 G B' H v d := by
  cases p with
  | false => exact h
  | true => exact h
theorem ss_tg {ix : List Nat} {t : Tg} {tg : Expr} (h : SE X 0 e f) (hg : GT X false 0 tg ix t) (hs : swapsWithSole [tg] e pos.line X.env = pure false := by rfl) (hw : swappedStores [tg] e X.env = pure none := by rfl)
    (h1 : (assignEach [tg] X.env).map (·.2) = [assign tg X.env] := by rfl) : SS X (.Assign [tg] e pos) (tgS t f) := ⟨psMono (ps_asg h.pe hg.pg hs hw h1) fun D σ H ⟨g, G, ss, s, o, s', wf, R, ef, q⟩ => by
  obtain ⟨d, s1, e1, ef⟩ := bnd_inv ef
  obtain ⟨ss1, s2, e2, e5⟩ := bnd_inv ef
  obtain ⟨e3, e4⟩ := lft_inv e2
  subst e4
  obtain ⟨e6, e7⟩ := ret_inv e5
  subst e6; subst e7
  exact ⟨g, G, ss, s, d, _, R, e1, fun v G' H' R' A' w => ⟨g, G', ss, _, d, ss1, R.ext A' R', w, e3, fun σ' R2 _ _ => q σ' G' H' R2 A'.g⟩⟩⟩
end
end Ev
end

section
set_option linter.all false
set_option Elab.async false
set_option maxRecDepth 100000
/-! Methods that change our own lists, parallel assignments, loops. -/
namespace Ev
open PySem PyProof.Rows L2

/-! ### an expression that changes our own lists -/
abbrev EvM := Slots → M (D × Slots)
def tM (f : EvM) : TE := fun σ H Q => ∃ g G ss s d ss' s', g.Wf ∧ Rel g G H σ ss s ∧ f ss s = some ((d, ss'), s') ∧
  ∀ v G' H', Rel g G' H' σ ss' s' → Same G G' → Dat G' v d → Q v H'
structure SM (X : Cx) (e : Expr) (f : EvM) : Prop where
  pe : PE X e (tM f)
/-- our own list in slot i -/
def ownL (ss : Slots) (i : Nat) : Option (List D) := match ss[i]? with
  | some (.own 1 (.list ds)) => some ds
  | _ => none
theorem ownL_is {ss : Slots} {i : Nat} {ds : List D} (h : ownL ss i = some ds) : ss[i]? = some (.own 1 (.list ds)) := by
  unfold ownL at h
  split at h
  · cases h; assumption
  · cases h
def setL (ss : Slots) (i : Nat) (ds : List D) : Slots := ss.set i (.own 1 (.list ds))
/-- a change by one argument -/
def chg (i : Nat) (op : List D → List D → Option (D × List D)) (e : EvL) : EvM := fun ss => bnd (e ss) fun ds => bnd (lft (ownL ss i)) fun xs => bnd (lft (op xs ds)) fun r => ret (r.1, setL ss i r.2)
def oApp : List D → List D → Option (D × List D)
  | xs, [d] => if xs.length < lim then some (.none, xs ++ [d]) else none
  | _, _ => none
def oPop : List D → List D → Option (D × List D)
  | xs, [] => (xs.getLast?).map fun d => (d, xs.dropLast)
  | xs, [.int j] => if wide j then (Ev.ixN xs.length j).bind fun k => (xs[k]?).map fun d => (d, xs.eraseIdx k) else none
  | _, _ => none
def oIns : List D → List D → Option (D × List D)
  | xs, [.int j, d] => if xs.length < lim ∧ 0 ≤ j ∧ j < 2 ^ 63 then some (.none, xs.take j.toNat ++ [d] ++ xs.drop j.toNat) else none
  | _, _ => none
def oRem : List D → List D → Option (D × List D)
  | xs, [.int k] => (asInts xs).bind fun ns => if k ∈ ns then some (.none, xs.eraseIdx (ns.idxOf k)) else none
  | _, _ => none
def setEM (i : Nat) (e : EvM) : EvS := fun ss => bnd (e ss) fun r => ret (.nx (r.2.set i (.vw 0 r.1)))
def dropM (e : EvM) : EvS := fun ss => bnd (e ss) fun r => ret (.nx r.2)
def retM (e : EvM) : EvS := fun ss => bnd (e ss) fun r => ret (.rt r.1)

section
variable {X : Cx} {i j n : Nat} {x y : Str} {ax e : Expr} {es : List Expr} {fl : EvL} {f : EvM} {pos apos cpos px ep : Pos}
theorem tyL {K : PySem.W.Frag} {H : Hp} {p : Addr} {vs : List V} (h : H p = some (.lst vs)) : tyV K "list" (.ref p) H := .inl ⟨rfl, vs, .inl (.inl h)⟩

/-- a list's method of the rule r, which writes the list as op says -/
theorem sm_meth {name : Str} {id : String} {r : V → List V → Hp → VK → Prop} {op : List D → List D → Option (D × List D)} (slot : PySem.Slot "list" name id) (hty : typeOf (.builtin id) = pure (.type "method_descriptor")) (hm : MtR X id r)
    (ho : PE X ax (tVar i)) (ha : SL X (e :: es) fl)
    (hr : ∀ (p : Addr) (xs : List V) (vs : List V) (ds as : List D) (d : D) (ds' : List D) (G H : Hp) (Q : VK), H p = some (.lst xs) → DatL G xs ds → DatL G vs as → op ds as = some (d, ds') → (∀ v xs', Dat G v d → DatL G xs' ds' → Q v (upd H p (.lst xs'))) → r (.ref p) vs H Q)
    (hbase : attributeBase ax name X.env (eval ax X.env) = eval ax X.env := by rfl)
    (hfew : ((backTo cpos (starEach (e :: es) X.env)).all (fun x => !x.1) && (backToKw cpos (keywordEach [] X.env)).all (fun x => x.1.isSome)
      && decide ((e :: es).length + ([] : List Keyword).length + (if ([] : List Keyword).isEmpty then 0 else 1) < 30)) = true := by rfl)
    (hline : (apos.endLine == cpos.line) = true := by rfl) (hs : starEach (e :: es) X.env = (false, eval e X.env) :: starEach es X.env := by rfl) (hplain : (backTo cpos (starEach es X.env)).any (·.1) = false := by rfl) :
    SM X (.Call (.Attribute ax name apos) (e :: es) [] cpos) (chg i op fl) := ⟨peMono (pe_bm PySem.F.plainAttrs_list slot hty hm ho ha.pa hbase hfew hline hs hplain) fun σ H Q ⟨g, G, ss, s, d, ss', s', wf, R, ef, q⟩ => by
  obtain ⟨as, s1, e1, f1⟩ := bnd_inv ef
  obtain ⟨ds, s2, e2, f2⟩ := bnd_inv f1
  obtain ⟨e3, e4⟩ := lft_inv e2
  subst e4
  obtain ⟨rr, s3, e5, f3⟩ := bnd_inv f2
  obtain ⟨e6, e7⟩ := lft_inv e5
  subst e7
  obtain ⟨e8, e9⟩ := ret_inv f3
  subst e9
  cases e8
  obtain ⟨p, xs, hσ, hp, l, wr⟩ := R.own1 wf (ownL_is e3)
  refine ⟨.ref p, hσ, tyL hp, g, G, ss, s, as, s', R, e1, fun vs G1 H1 R1 A1 l1 => ?_⟩
  obtain ⟨p', xs', hσ', hp', l', wr'⟩ := (R.ext A1 R1).own1 wf (ownL_is e3)
  rw [hσ] at hσ'
  cases hσ'
  refine hr p xs' vs ds as _ _ G1 H1 Q hp' l' l1 e6 fun v xs2 w l2 => q v G1 _ (wr' xs2 _ l2) A1.g w⟩
/-- .. without arguments -/
theorem sm_meth0 {name : Str} {id : String} {r : V → List V → Hp → VK → Prop} {op : List D → List D → Option (D × List D)} (slot : PySem.Slot "list" name id) (hty : typeOf (.builtin id) = pure (.type "method_descriptor")) (hm : MtR X id r)
    (ho : PE X ax (tVar i))
    (hr : ∀ (p : Addr) (xs : List V) (ds : List D) (d : D) (ds' : List D) (G H : Hp) (Q : VK), H p = some (.lst xs) → DatL G xs ds → op ds [] = some (d, ds') → (∀ v xs', Dat G v d → DatL G xs' ds' → Q v (upd H p (.lst xs'))) → r (.ref p) [] H Q)
    (hbase : attributeBase ax name X.env (eval ax X.env) = eval ax X.env := by rfl) (hline : (apos.endLine == cpos.line) = true := by rfl) :
    SM X (.Call (.Attribute ax name apos) [] [] cpos) (chg i op nilA) := ⟨peMono (pe_bm0 PySem.F.plainAttrs_list slot hty hm ho hbase hline) fun σ H Q ⟨g, G, ss, s, d, ss', s', wf, R, ef, q⟩ => by
  obtain ⟨as, s1, e1, f1⟩ := bnd_inv ef
  obtain ⟨e0, e00⟩ := ret_inv (show ret [] s = some (as, s1) from e1)
  subst e00; subst e0
  obtain ⟨ds, s2, e2, f2⟩ := bnd_inv f1
  obtain ⟨e3, e4⟩ := lft_inv e2
  subst e4
  obtain ⟨rr, s3, e5, f3⟩ := bnd_inv f2
  obtain ⟨e6, e7⟩ := lft_inv e5
  subst e7
  obtain ⟨e8, e9⟩ := ret_inv f3
  subst e9
  cases e8
  obtain ⟨p, xs, hσ, hp, l, wr⟩ := R.own1 wf (ownL_is e3)
  exact ⟨.ref p, hσ, tyL hp, hr p xs ds _ _ G H Q hp l e6 fun v xs2 w l2 => q v G _ (wr xs2 _ l2) Same.rfl w⟩⟩
theorem DatL.one {G : Hp} {vs : List V} {d : D} (h : DatL G vs [d]) : ∃ v, vs = [v] ∧ Dat G v d := by
  cases h with
  | cons a b => cases b; exact ⟨_, rfl, a⟩
theorem DatL.two {G : Hp} {vs : List V} {d d2 : D} (h : DatL G vs [d, d2]) : ∃ v w, vs = [v, w] ∧ Dat G v d ∧ Dat G w d2 := by
  cases h with
  | cons a b => cases b with
    | cons b c => cases c; exact ⟨_, _, rfl, a, b⟩
theorem DatL.intAt {G : Hp} {v : V} {i : Int} (h : Dat G v (.int i)) : v = .int i := by cases h; rfl
theorem hr_app {p : Addr} {xs vs : List V} {ds as : List D} {d : D} {ds' : List D} {G H : Hp} {Q : VK} (hp : H p = some (.lst xs)) (l : DatL G xs ds) (l1 : DatL G vs as) (e : oApp ds as = some (d, ds')) (q : ∀ v xs', Dat G v d → DatL G xs' ds' → Q v (upd H p (.lst xs'))) : rAppend (.ref p) vs H Q := by
  unfold oApp at e
  split at e
  · split at e
    · rename_i d2 hl
      cases e
      obtain ⟨v, rfl, w⟩ := l1.one
      exact ⟨p, xs, v, rfl, rfl, hp, by rw [l.length, ← lim_eq]; exact hl, q _ _ .non (l.snoc w)⟩
    · cases e
  · cases e
theorem hr_pop0 {p : Addr} {xs : List V} {ds : List D} {d : D} {ds' : List D} {G H : Hp} {Q : VK} (hp : H p = some (.lst xs)) (l : DatL G xs ds) (e : oPop ds [] = some (d, ds')) (q : ∀ v xs', Dat G v d → DatL G xs' ds' → Q v (upd H p (.lst xs'))) : rPop (.ref p) [] H Q := by
  have e' : (ds.getLast?).map (fun d => (d, ds.dropLast)) = some (d, ds') := e
  rw [List.getLast?_eq_getElem?] at e'
  cases e2 : ds[ds.length - 1]? with
  | none => rw [e2] at e'; cases e'
  | some d2 =>
    rw [e2] at e'
    cases e'
    obtain ⟨v, hv, w⟩ := l.get e2
    rw [← l.length] at hv
    refine ⟨p, xs, v, rfl, rfl, hp, hv, q v _ w ?_⟩
    rw [List.dropLast_eq_take, List.dropLast_eq_take, l.length]
    exact l.take _
theorem erase_mapI : ∀ (l : List Int) (j : Nat), (l.map PyData.int).eraseIdx j = (l.eraseIdx j).map PyData.int
  | [], j => by simp
  | a :: r, 0 => by simp
  | a :: r, j + 1 => by simp [erase_mapI r j]
theorem seqIx {i : Int} {n k : Nat} (h : Ev.ixN n i = some k) : seqIndex? i n = some k := by
  unfold Ev.ixN at h
  unfold seqIndex?
  split at h
  · rename_i h0
    split at h
    · cases h
      simp only
      split <;> simp_all <;> omega
    · cases h
  · split at h
    · cases h
      simp only
      split <;> simp_all <;> omega
    · cases h
theorem hr_popA {p : Addr} {xs vs : List V} {ds : List D} {j : D} {d : D} {ds' : List D} {G H : Hp} {Q : VK} (hp : H p = some (.lst xs)) (l : DatL G xs ds) (l1 : DatL G vs [j]) (e : oPop ds [j] = some (d, ds')) (q : ∀ v xs', Dat G v d → DatL G xs' ds' → Q v (upd H p (.lst xs'))) : rPopAt (.ref p) vs H Q := by
  cases j <;> try (cases e; done)
  rename_i j
  have e' : (if wide j then (Ev.ixN ds.length j).bind fun k => (ds[k]?).map fun d => (d, ds.eraseIdx k) else none) = some (d, ds') := e
  split at e'
  case isFalse => cases e'
  rename_i hw
  obtain ⟨v, rfl, w⟩ := l1.one
  rw [DatL.intAt w]
  have hw := wide_is hw
  cases e2 : Ev.ixN ds.length j with
  | none => rw [e2] at e'; cases e'
  | some k =>
    rw [e2] at e'
    have e'' : (ds[k]?).map (fun d => (d, ds.eraseIdx k)) = some (d, ds') := e'
    cases e3 : ds[k]? with
    | none => rw [e3] at e''; cases e''
    | some d2 =>
      rw [e3] at e''
      cases e''
      obtain ⟨u, hu, wu⟩ := l.get e3
      exact ⟨p, xs, j, k, u, rfl, rfl, hp, by omega, by omega, by rw [l.length]; exact seqIx e2, hu, q u _ wu (l.eraseIdx k)⟩
theorem sm_app (ho : PE X ax (tVar i)) (ha : SL X [e] fl) (hbase : attributeBase ax "append" X.env (eval ax X.env) = eval ax X.env := by rfl)
    (hfew : ((backTo cpos (starEach [e] X.env)).all (fun x => !x.1) && (backToKw cpos (keywordEach [] X.env)).all (fun x => x.1.isSome) && decide ([e].length + ([] : List Keyword).length + (if ([] : List Keyword).isEmpty then 0 else 1) < 30)) = true := by rfl)
    (hline : (apos.endLine == cpos.line) = true := by rfl) (hs : starEach [e] X.env = (false, eval e X.env) :: starEach [] X.env := by rfl) : SM X (.Call (.Attribute ax "append" apos) [e] [] cpos) (chg i oApp fl) :=
  sm_meth PySem.F.slot_list_append PySem.type_list_append mt_append ho ha (fun p xs vs ds as d ds' G H Q h1 h2 h3 h4 h5 => hr_app h1 h2 h3 h4 h5) hbase hfew hline hs rfl
theorem sm_pop0 (ho : PE X ax (tVar i)) (hbase : attributeBase ax "pop" X.env (eval ax X.env) = eval ax X.env := by rfl) (hline : (apos.endLine == cpos.line) = true := by rfl) : SM X (.Call (.Attribute ax "pop" apos) [] [] cpos) (chg i oPop nilA) :=
  sm_meth0 PySem.F.slot_list_pop PySem.F.type_list_pop mt_pop ho (fun p xs ds d ds' G H Q h1 h2 h3 h4 => hr_pop0 h1 h2 h3 h4) hbase hline
theorem sm_popA (ho : PE X ax (tVar i)) (ha : SL X [e] fl) (hbase : attributeBase ax "pop" X.env (eval ax X.env) = eval ax X.env := by rfl)
    (hfew : ((backTo cpos (starEach [e] X.env)).all (fun x => !x.1) && (backToKw cpos (keywordEach [] X.env)).all (fun x => x.1.isSome) && decide ([e].length + ([] : List Keyword).length + (if ([] : List Keyword).isEmpty then 0 else 1) < 30)) = true := by rfl)
    (hline : (apos.endLine == cpos.line) = true := by rfl) (hs : starEach [e] X.env = (false, eval e X.env) :: starEach [] X.env := by rfl) : SM X (.Call (.Attribute ax "pop" apos) [e] [] cpos) (chg i (fun xs as => match as with | [j] => oPop xs [j] | _ => none) fl) :=
  sm_meth PySem.F.slot_list_pop PySem.F.type_list_pop mt_popAt ho ha (fun p xs vs ds as d ds' G H Q h1 h2 h3 h4 h5 => by
    cases as with
    | nil => cases h4
    | cons j as =>
      cases as with
      | nil => exact hr_popA h1 h2 h3 h4 h5
      | cons _ _ => cases h4) hbase hfew hline hs rfl
theorem sm_ins {e2 : Expr} (ho : PE X ax (tVar i)) (ha : SL X [e, e2] fl) (hbase : attributeBase ax "insert" X.env (eval ax X.env) = eval ax X.env := by rfl)
    (hfew : ((backTo cpos (starEach [e, e2] X.env)).all (fun x => !x.1) && (backToKw cpos (keywordEach [] X.env)).all (fun x => x.1.isSome) && decide ([e, e2].length + ([] : List Keyword).length + (if ([] : List Keyword).isEmpty then 0 else 1) < 30)) = true := by rfl)
    (hline : (apos.endLine == cpos.line) = true := by rfl) (hs : starEach [e, e2] X.env = (false, eval e X.env) :: starEach [e2] X.env := by rfl) (hplain : (backTo cpos (starEach [e2] X.env)).any (·.1) = false := by rfl) : SM X (.Call (.Attribute ax "insert" apos) [e, e2] [] cpos) (chg i oIns fl) :=
  sm_meth PySem.F.slot_list_insert PySem.F.type_list_insert mt_insert ho ha (fun p xs vs ds as d ds' G H Q hp l l1 h4 h5 => by
    unfold oIns at h4
    split at h4
    case h_2 => cases h4
    rename_i j d2
    split at h4
    case isFalse => cases h4
    rename_i hl
    cases h4
    obtain ⟨v, w, rfl, w1, w2⟩ := l1.two
    rw [DatL.intAt w1]
    exact ⟨p, xs, j, w, rfl, rfl, hp, by rw [l.length, ← lim_eq]; exact hl.1, hl.2.1, hl.2.2, h5 _ _ .non (((l.take _).snoc w2).app (l.drop _))⟩) hbase hfew hline hs hplain
theorem sm_rem (ho : PE X ax (tVar i)) (ha : SL X [e] fl) (hbase : attributeBase ax "remove" X.env (eval ax X.env) = eval ax X.env := by rfl)
    (hfew : ((backTo cpos (starEach [e] X.env)).all (fun x => !x.1) && (backToKw cpos (keywordEach [] X.env)).all (fun x => x.1.isSome) && decide ([e].length + ([] : List Keyword).length + (if ([] : List Keyword).isEmpty then 0 else 1) < 30)) = true := by rfl)
    (hline : (apos.endLine == cpos.line) = true := by rfl) (hs : starEach [e] X.env = (false, eval e X.env) :: starEach [] X.env := by rfl) : SM X (.Call (.Attribute ax "remove" apos) [e] [] cpos) (chg i oRem fl) :=
  sm_meth PySem.F.slot_list_remove PySem.F.type_list_remove mt_remove ho ha (fun p xs vs ds as d ds' G H Q hp l l1 h4 h5 => by
    unfold oRem at h4
    split at h4
    case h_2 => cases h4
    rename_i k
    cases ei : asInts ds with
    | none => rw [ei] at h4; cases h4
    | some ns =>
      rw [ei] at h4
      have h4' : (if k ∈ ns then some (PyData.none, ds.eraseIdx (ns.idxOf k)) else none) = some (d, ds') := h4
      split at h4'
      case isFalse => cases h4'
      rename_i hk
      cases h4'
      obtain ⟨v, rfl, w⟩ := l1.one
      rw [DatL.intAt w]
      rw [asInts_eq ei] at l
      have hv := l.of_ints
      rw [hv] at hp
      have hlt := List.idxOf_lt_length_of_mem hk
      refine ⟨p, ns, k, ns.idxOf k, rfl, rfl, hp, ?_, fun m hm hz => ?_, h5 _ _ .non ?_⟩
      · rw [List.getElem?_eq_getElem hlt, List.getElem_idxOf]
      · obtain ⟨hm1, hm2⟩ := List.getElem?_eq_some_iff.mp hz
        have := List.not_of_lt_findIdx (p := (· == k)) (xs := ns) (i := m) (by simpa [List.idxOf] using hm)
        simp [hm2] at this
      · rw [asInts_eq ei, erase_mapI ns]
        exact DatL.ints _) hbase hfew hline hs rfl

/-! ### as statements -/
theorem ss_dropM (h : SM X e f) (hs : swapsWith e none pos.line X.env = pure false := by rfl) : SS X (.Expr e pos) (dropM f) := ⟨psMono (ps_expr h.pe hs) fun D σ H ⟨g, G, ss, s, o, s', wf, R, ef, q⟩ => by
  obtain ⟨r, s1, e1, f1⟩ := bnd_inv ef
  obtain ⟨e2, e3⟩ := ret_inv f1
  subst e2; subst e3
  exact ⟨g, G, ss, s, r.1, r.2, _, wf, R, e1, fun v G' H' R' k w => q σ G' H' R' k⟩⟩
theorem ss_setM (hN : X.N.Nodup) (hi : X.N[i]? = some x) (hx : Loc X.env.scope x) (h : SM X e f) (hs : swapsWith e (some (.Name x px)) pos.line X.env = pure false := by rfl) (hf : X.fn x = true ∨ X.env.scope.names.lookup x = some .local := by first | exact .inl rfl | exact .inr rfl | assumption) :
    SS X (.Assign [.Name x px] e pos) (setEM i f) := ⟨psMono (ps_set hN hi hx h.pe hs hf) fun D σ H ⟨g, G, ss, s, o, s', wf, R, ef, q⟩ => by
  obtain ⟨r, s1, e1, f1⟩ := bnd_inv ef
  obtain ⟨e2, e3⟩ := ret_inv f1
  subst e2; subst e3
  exact ⟨g, G, ss, s, r.1, r.2, _, wf, R, e1, fun v G' H' R' k w => q _ G' H' (R'.put (n := 0) w) k⟩⟩
theorem ss_retM (h : SM X e f) : SS X (.Return (some e) pos) (retM f) := ⟨psMono (ps_ret h.pe) fun D σ H ⟨g, G, ss, s, o, s', wf, R, ef, q⟩ => by
  obtain ⟨r, s1, e1, f1⟩ := bnd_inv ef
  obtain ⟨e2, e3⟩ := ret_inv f1
  subst e2; subst e3
  exact ⟨g, G, ss, s, r.1, r.2, _, wf, R, e1, fun v G' H' R' k w => q v G' H' R'.e k w⟩⟩
end

/-! ### several at once -/
inductive WOk (G H : Hp) : List V → List Slot → List Addr → Prop
  | nil : WOk G H [] [] []
  | vw {v : V} {vs : List V} {d : D} {as : List Slot} {F : List Addr} : Dat G v d → WOk G H vs as F → WOk G H (v :: vs) (.vw 0 d :: as) F
  | own {v : V} {vs : List V} {k : Nat} {d : D} {as : List Slot} {F F' : List Addr} : Own k G H v d F' → WOk G H vs as F → WOk G H (v :: vs) (.own k d :: as) (F' ++ F)
theorem WOk.there {G H : Hp} {vs : List V} {as : List Slot} {F : List Addr} (w : WOk G H vs as F) : ∀ p ∈ F, H p ≠ none := by
  induction w with
  | nil => intro p hp; cases hp
  | vw _ _ ih => exact ih
  | own a _ ih => exact fun p hp => (List.mem_append.mp hp).elim (a.there p) (ih p)
theorem WOk.length {G H : Hp} {vs : List V} {as : List Slot} {F : List Addr} (w : WOk G H vs as F) : vs.length = as.length := by
  induction w with
  | nil => rfl
  | vw _ _ ih => exact congrArg (· + 1) ih
  | own a _ ih => exact congrArg (· + 1) ih
theorem WOk.laid {G H : Hp} {vs : List V} {as : List Slot} {F : List Addr} (w : WOk G H vs as F) {p : Addr} {o : HO} (h : H p = none) : WOk G (upd H p o) vs as F := by
  induction w with
  | nil => exact .nil
  | vw a _ ih => exact .vw a ih
  | own a _ ih => exact .own (a.keep (fun _ _ h => h) fun q hq => upd_ne fun z => a.there q hq (by rw [z]; exact h)) ih
def tW (f : EvA) : TA := fun σ H Q => ∃ g G ss s as s', Rel g G H σ ss s ∧ f ss s = some (as, s') ∧
  ∀ vs G' H' F, RelE g G' H' s' → Adv g.sa G H G' H' → WOk G' H' vs as F → Fresh g.sa H G' F → Q vs H'
structure SW (X : Cx) (es : List Expr) (f : EvA) : Prop where
  pa : PA X es (tW f)
def wV (e : EvE) (r : EvA) : EvA := fun ss => bnd (e ss) fun d => bnd (r ss) fun as => ret (.vw 0 d :: as)
def wO (k : Nat) (e : EvE) (r : EvA) : EvA := fun ss => bnd (e ss) fun d => bnd (r ss) fun as => ret (.own k d :: as)
def setV : L2.St → List Nat → List V → L2.St
  | σ, i :: is, v :: vs => setV (σ.set i (some v)) is vs
  | σ, _, _ => σ
def setSl : Slots → List Nat → List Slot → Slots
  | ss, i :: is, a :: as => setSl (ss.set i a) is as
  | ss, _, _ => ss
def parS (is : List Nat) (f : EvA) : EvS := fun ss => bnd (f ss) fun as => if as.length = is.length then ret (.nx (setSl ss is as)) else stop
theorem Fresh.off {g : Gh} {G H G1 H1 : Hp} {s s1 : Src} (A : Adv g.sa G H G1 H1) (R : RelE g G H s) (R1 : RelE g G1 H1 s1) {p : Addr} (h : H1 p = none) : H p = none := by
  cases q : H p with
  | none => rfl
  | some o =>
    by_cases hx : p ∈ g.sa
    · exact absurd h (R1.src.there p hx)
    · have := A.at hx q; rw [h] at this; cases this
theorem RelF.putW {g : Gh} {G H : Hp} {vs : List V} {as : List Slot} {F : List Addr} (w : WOk G H vs as F) : ∀ {σ : L2.St} {ss : Slots} {F0 : Nat → List Addr} {is : List Nat}, RelF g G H σ ss F0 → σ.length = ss.length → F.Nodup →
    (∀ p ∈ F, G p = none ∧ p ∉ g.sa ∧ ¬ g.Old p) → (∀ j p, p ∈ F → p ∉ F0 j) → as.length = is.length → (∃ F2, RelF g G H (setV σ is vs) (setSl ss is as) F2) ∧ (setV σ is vs).length = (setSl ss is as).length := by
  induction w with
  | nil =>
    intro σ ss F0 is r hl nd out dis e
    cases is with
    | nil => exact ⟨⟨F0, r⟩, hl⟩
    | cons _ _ => cases e
  | @vw v vs d as F a w ih =>
    intro σ ss F0 is r hl nd out dis e
    cases is with
    | nil => cases e
    | cons i is =>
      obtain ⟨F2, r2, k2⟩ := r.putF (i := i) (v := v) (sl := .vw 0 d) (F' := []) hl ⟨v, rfl, a, rfl⟩ List.nodup_nil (fun p hp => by cases hp) (fun j _ p hp => by cases hp)
      exact ih r2 (by rw [List.length_set, List.length_set]; exact hl) nd out (fun j p hp hj => (k2 j p hj).elim (fun z => by cases z) fun z => dis j p hp z) (by simpa using e)
  | @own v vs k d as F F' a w ih =>
    intro σ ss F0 is r hl nd out dis e
    cases is with
    | nil => cases e
    | cons i is =>
      obtain ⟨n1, n2, n3⟩ := List.nodup_append.mp nd
      obtain ⟨F2, r2, k2⟩ := r.putF (i := i) (v := v) (sl := .own k d) (F' := F') hl ⟨v, rfl, a⟩ n1 (fun p hp => out p (List.mem_append_left _ hp)) (fun j _ p hp => dis j p (List.mem_append_left _ hp))
      exact ih r2 (by rw [List.length_set, List.length_set]; exact hl) n2 (fun p hp => out p (List.mem_append_right _ hp)) (fun j p hp hj => (k2 j p hj).elim (fun z => n3 p z p hp rfl) fun z => dis j p (List.mem_append_right _ hp) z) (by simpa using e)
theorem Rel.putW {g : Gh} {G H G' H' : Hp} {σ : L2.St} {ss : Slots} {s s' : Src} {is : List Nat} {vs : List V} {as : List Slot} {F : List Addr} (r : Rel g G H σ ss s) (R' : RelE g G' H' s') (A : Adv g.sa G H G' H') (w : WOk G' H' vs as F) (fr : Fresh g.sa H G' F) (hl : as.length = is.length) :
    Rel g G' H' (setV σ is vs) (setSl ss is as) s' := by
  obtain ⟨F0, f0⟩ := r.f
  have kp : ∀ i p, p ∈ F0 i → H' p = H p := fun i p hp => by
    cases q : H p with
    | none => exact absurd q ((f0.ok i).there p hp)
    | some o => exact A.at (f0.out i p hp).2.1 q
  have f : RelF g G' H' σ ss F0 := by
    refine ⟨fun i => (f0.ok i).keep A.g fun p hp => kp i p hp, f0.nd, fun i p hp => ⟨?_, (f0.out i p hp).2⟩, f0.dis⟩
    cases q : H p with
    | none => exact absurd q ((f0.ok i).there p hp)
    | some o => exact A.off (f0.out i p hp).1 q
  obtain ⟨h1, h2⟩ := f.putW w r.len fr.nd (fun p hp => ⟨(fr.new p hp).2, fun z => r.e.src.there p z (fr.new p hp).1, fun z => r.e.old p z (fr.new p hp).1⟩) (fun j p hp hj => (f0.ok j).there p hj (fr.new p hp).1) hl
  exact ⟨R', h2, h1⟩
section
variable {X : Cx} {i j l n k : Nat} {x y z : Str} {e a b c : Expr} {es : List Expr} {f : EvE} {fw : EvA} {pos px py pz pt pt2 : Pos} {kt k2 : Nat}
theorem sw_nil : SW X [] argsN := ⟨paMono pa_nil fun σ H Q ⟨g, G, ss, s, as, s', R, ef, q⟩ => by
  obtain ⟨e1, e2⟩ := ret_inv ef
  subst e1; subst e2
  exact q [] G H [] R.e (Adv.refl _ _ _) .nil ⟨List.nodup_nil, fun p hp => by cases hp⟩⟩
theorem sw_vw (ha : SE X 0 e f) (hr : SW X es fw) (hs : starEach (e :: es) X.env = (false, eval e X.env) :: starEach es X.env := by rfl) : SW X (e :: es) (wV f fw) := ⟨paMono (pa_cons ha.pe hr.pa hs) fun σ H Q ⟨g, G, ss, s, as, s', R, ef, q⟩ => by
  obtain ⟨dx, s1, e1, f1⟩ := bnd_inv ef
  obtain ⟨dy, s2, e2, f2⟩ := bnd_inv f1
  obtain ⟨e3, e4⟩ := ret_inv f2
  subst e3; subst e4
  refine ⟨g, G, ss, s, dx, s1, R, e1, fun x G1 H1 R1 A1 w1 => ⟨g, G1, ss, s1, dy, s', R.ext A1 R1, e2, fun vs G2 H2 F R2 A2 w2 fr => ?_⟩⟩
  exact q _ G2 H2 F R2 (A1.trans R1 A2 ⟨_, R2⟩) (.vw (Dat.mono A2.g w1) w2) (fr.back A1 R1 R.e.src.there)⟩
theorem sw_own (ha : SF X k e f) (hr : SW X es fw) (hs : starEach (e :: es) X.env = (false, eval e X.env) :: starEach es X.env := by rfl) : SW X (e :: es) (wO k f fw) := ⟨paMono (pa_cons ha.pe hr.pa hs) fun σ H Q ⟨g, G, ss, s, as, s', R, ef, q⟩ => by
  obtain ⟨dx, s1, e1, f1⟩ := bnd_inv ef
  obtain ⟨dy, s2, e2, f2⟩ := bnd_inv f1
  obtain ⟨e3, e4⟩ := ret_inv f2
  subst e3; subst e4
  refine ⟨g, G, ss, s, dx, s1, R, e1, fun x G1 H1 F1 R1 A1 w1 fr1 => ⟨g, G1, ss, s1, dy, s', R.ext A1 R1, e2, fun vs G2 H2 F R2 A2 w2 fr => ?_⟩⟩
  have th := w1.there
  have nsa : ∀ p ∈ F1, p ∉ g.sa := fun p hp hz => R.e.src.there p hz (fr1.new p hp).1
  refine q _ G2 H2 (F1 ++ F) R2 (A1.trans R1 A2 ⟨_, R2⟩) (.own (w1.keep A2.g fun p hp => ?_) w2) ⟨List.nodup_append.mpr ⟨fr1.nd, fr.nd, fun p hp p' hp' ez => ?_⟩, fun p hp => ?_⟩
  · cases z : H1 p with
    | none => exact absurd z (th p hp)
    | some o => exact A2.at (nsa p hp) z
  · subst ez
    exact th p hp (fr.new p hp').1
  · rcases List.mem_append.mp hp with h | h
    · refine ⟨(fr1.new p h).1, ?_⟩
      cases z : H1 p with
      | none => exact absurd z (th p h)
      | some o => exact A2.off (fr1.new p h).2 z
    · exact ⟨Fresh.off A1 R.e R1 (fr.new p h).1, (fr.new p h).2⟩⟩
theorem vlen2 {vs : List V} {as : List Slot} (h : vs.length = as.length) {is : List Nat} (e : as.length = is.length) : vs.length = is.length := h.trans e
theorem ss_par2 (hc : X.calm = true) (hN : X.N.Nodup) (hi : X.N[i]? = some x) (hj : X.N[j]? = some y) (hij : i ≠ j) (hx : X.env.scope.names.lookup x = some .local) (hy : X.env.scope.names.lookup y = some .local) (ha : SW X [a, b] fw)
    (hw : swappedStores [.Tuple [.Name x px, .Name y py] kt pt] (.Tuple [a, b] k2 pt2) X.env = pure (some [x, y])) (hs : swapsWithSole [.Tuple [.Name x px, .Name y py] kt pt] (.Tuple [a, b] k2 pt2) pos.line X.env = pure false := by rfl) :
    SS X (.Assign [.Tuple [.Name x px, .Name y py] kt pt] (.Tuple [a, b] k2 pt2) pos) (parS [i, j] fw) := ⟨psMono (ps_par hc hN hi hj hij hx hy ha.pa hw hs) fun D σ H ⟨g, G, ss, s, o, s', wf, R, ef, q⟩ => by
  obtain ⟨as, s1, e1, f1⟩ := bnd_inv ef
  split at f1
  case isFalse => cases f1
  rename_i hl
  obtain ⟨e2, e3⟩ := ret_inv f1
  subst e2; subst e3
  refine ⟨g, G, ss, s, as, _, R, e1, fun vs G1 H1 F R1 A1 w fr => ?_⟩
  have h2 := w.length.trans hl
  match vs, h2 with
  | [v1, v2], _ => exact ⟨v1, v2, rfl, q _ G1 H1 (R.putW (is := [i, j]) R1 A1 w fr hl) A1.g⟩⟩
theorem ss_par3 (hc : X.calm = true) (hN : X.N.Nodup) (hi : X.N[i]? = some x) (hj : X.N[j]? = some y) (hl : X.N[l]? = some z) (hij : i ≠ j) (hil : i ≠ l) (hjl : j ≠ l) (hx : X.env.scope.names.lookup x = some .local) (hy : X.env.scope.names.lookup y = some .local) (hz : X.env.scope.names.lookup z = some .local) (ha : SW X [a, b, c] fw)
    (hw : swappedStores [.Tuple [.Name x px, .Name y py, .Name z pz] kt pt] (.Tuple [a, b, c] k2 pt2) X.env = pure (some [x, y, z])) (hs : swapsWithSole [.Tuple [.Name x px, .Name y py, .Name z pz] kt pt] (.Tuple [a, b, c] k2 pt2) pos.line X.env = pure false := by rfl) :
    SS X (.Assign [.Tuple [.Name x px, .Name y py, .Name z pz] kt pt] (.Tuple [a, b, c] k2 pt2) pos) (parS [i, j, l] fw) := ⟨psMono (ps_par3 hc hN hi hj hl hij hil hjl hx hy hz ha.pa hw hs) fun D σ H ⟨g, G, ss, s, o, s', wf, R, ef, q⟩ => by
  obtain ⟨as, s1, e1, f1⟩ := bnd_inv ef
  split at f1
  case isFalse => cases f1
  rename_i hlen
  obtain ⟨e2, e3⟩ := ret_inv f1
  subst e2; subst e3
  refine ⟨g, G, ss, s, as, _, R, e1, fun vs G1 H1 F R1 A1 w fr => ?_⟩
  have h2 := w.length.trans hlen
  match vs, h2 with
  | [v1, v2, v3], _ => exact ⟨v1, v2, v3, rfl, q _ G1 H1 (R.putW (is := [i, j, l]) R1 A1 w fr hlen) A1.g⟩⟩
/-- .. through a tuple, by any targets that are names -/
def gNames : List Nat → TGs
  | [] => gNil
  | i :: is => gCons (gName i) (gNames is)
theorem gNames_go {Q : L2.St → Hp → Prop} {H : Hp} : ∀ {is : List Nat} {vs : List V} {σ : L2.St}, vs.length = is.length → Q (setV σ is vs) H → gNames is vs σ H Q
  | [], [], σ, _, q => ⟨rfl, q⟩
  | i :: is, v :: vs, σ, e, q => ⟨v, vs, rfl, gNames_go (is := is) (by simpa using e) q⟩
theorem ss_parT {tgs : List Expr} {is : List Nat} (hc : X.calm = true) (hg : PGs X tgs (gNames is)) (ha : SW X es fw) (hz : is.length ≤ 100 := by decide) (hn : (assignEach tgs X.env).length = is.length := by rfl) (hst : (assignEach tgs X.env).findIdx? (·.1) = none := by rfl)
    (hs : swapsWithSole [.Tuple tgs kt pt] (.Tuple es k2 pt2) pos.line X.env = pure false := by rfl) (hw : swappedStores [.Tuple tgs kt pt] (.Tuple es k2 pt2) X.env = pure none := by rfl)
    (h1 : (assignEach [.Tuple tgs kt pt] X.env).map (·.2) = [assign (.Tuple tgs kt pt) X.env] := by rfl) : SS X (.Assign [.Tuple tgs kt pt] (.Tuple es k2 pt2) pos) (parS is fw) := ⟨psMono (ps_asg (pe_tup ha.pa) (pg_tup hc hg hn hst) hs hw h1) fun D σ H ⟨g, G, ss, s, o, s', wf, R, ef, q⟩ => by
  obtain ⟨as, s1, e1, f1⟩ := bnd_inv ef
  split at f1
  case isFalse => cases f1
  rename_i hlen
  obtain ⟨e2, e3⟩ := ret_inv f1
  subst e2; subst e3
  refine ⟨g, G, ss, s, as, _, R, e1, fun vs G1 H1 F R1 A1 w fr => ?_⟩
  have h2 := w.length.trans hlen
  refine ⟨by rw [h2]; exact Nat.le_trans hz (by decide), fun p hp => ?_⟩
  obtain ⟨R2, A2⟩ := R1.laid (o := .tup vs) hp
  refine ⟨p, vs, rfl, .inl (.inl upd_same), h2, gNames_go h2 (q _ G1 _ (R.putW R2 (A1.trans R1 A2 ⟨_, R2⟩) (w.laid hp) fr hlen) A1.g)⟩⟩
end
end Ev
end

section
set_option linter.all false
set_option Elab.async false
set_option maxRecDepth 100000
/-! Loops. -/
namespace Ev
open PySem PyProof.Rows L2
section
variable {X : Cx} {p : Bool} {tg iter c : Expr} {body : List Stmt} {fl : EvL} {fc : EvT} {fb : EvS} {t : Tg} {ix dead : List Nat} {pos : Pos} {n : Nat}
theorem ss_for (hp : PassesOwn (model X.prog X.w) X.A X.env X.xe) (hc : X.calm = true) (hi : SI X true p n tg iter fl) (hg : GT X p (n - 1) tg ix t) (hb : SB X body fb) (hs : ∀ x, foldedSetIterable iter X.env x = pure x := by intro _; rfl) :
    SS X (.For tg iter body [] pos) (forS fl t fb dead) := ⟨psMono (ps_for hp hc hi.pi hg.pg hb.ps hs) fun D σ H ⟨g, G, ss, s, o, s', wf, R, ef, q⟩ => by
  obtain ⟨xs, s1, ex, e2⟩ := bnd_inv ef
  refine ⟨g, G, ss, s, xs, s1, R, ex, fun J G1 H1 R1 A1 it => ?_⟩
  let P : Nat → L2.St → Hp → Prop := fun i σ H => ∃ G2 ss2 s2, Rel g G2 H σ ss2 s2 ∧ Same G1 G2 ∧ forL t fb dead (xs.drop i) ss2 s2 = some (o, s')
  refine ⟨fun i m σ H => m = xs.length - i ∧ i ≤ xs.length ∧ P i σ H, ⟨xs.length, by simp, Nat.zero_le _, G1, ss, s1, R.ext A1 R1, Same.rfl, e2⟩, ?_⟩
  rintro i m σ2 H2 ⟨rfl, hi, G2, ss2, s2, R2, k2, e3⟩
  obtain ⟨st, go⟩ := it g G2 H2 s2 R2.e rfl k2 fun _ => R2.e.bh
  by_cases hlt : i < xs.length
  · right
    have hx : xs[i]? = some xs[i] := List.getElem?_eq_getElem hlt
    obtain ⟨g1, y1⟩ := go i _ hx
    refine ⟨g1, P (i + 1), fun σ' H' p' => ⟨xs.length - (i + 1), by omega, rfl, hlt, p'⟩, fun x H3 y => ?_⟩
    obtain ⟨e4, ok⟩ := y1 x H3 y
    obtain ⟨R3, A3⟩ := R2.e.ext e4
    rw [List.drop_eq_getElem_cons hlt] at e3
    cases et : t xs[i] ss2 with
    | none => rw [forL] at e3; dsimp only at e3; rw [et] at e3; cases e3
    | some ss3 =>
    rw [forL] at e3
    dsimp only at e3
    rw [et] at e3
    obtain ⟨o1, s4, e5, e6⟩ := bnd_inv e3
    refine ⟨g, G2, ss2, s2, xs[i], ss3, R2.ext A3 R3, ok, et, fun σ4 R4 _ _ => ⟨g, G2, ss3, s2, o1, s4, wf, R4, e5, ?_⟩⟩
    cases o1 with
    | nx ss5 => exact fun σ5 G5 H5 R5 k5 => ⟨G5, _, s4, R5.weak dead rfl fun _ _ => rfl, Same.trans k2 k5, e6⟩
    | ct ss5 => exact fun σ5 G5 H5 R5 k5 => ⟨G5, _, s4, R5.weak dead rfl fun _ _ => rfl, Same.trans k2 k5, e6⟩
    | bk ss5 =>
      obtain ⟨e7, e8⟩ := ret_inv e6
      subst e7; subst e8
      exact fun σ5 G5 H5 R5 k5 => q σ5 G5 H5 R5 (Same.trans A1.g (Same.trans k2 k5))
    | rt d =>
      obtain ⟨e7, e8⟩ := ret_inv e6
      subst e7; subst e8
      exact fun v G5 H5 R5 k5 w => q v G5 H5 R5 (Same.trans A1.g (Same.trans k2 k5)) w
  · left
    have e : i = xs.length := by omega
    subst e
    rw [List.drop_length] at e3
    obtain ⟨e7, e8⟩ := ret_inv (show ret (.nx ss2) s2 = some (o, s') from e3)
    subst e7; subst e8
    exact ⟨st, q σ2 G2 H2 R2 (Same.trans A1.g k2)⟩⟩
theorem ss_while (hp : PassesOwn (model X.prog X.w) X.A X.env X.xe) (hc : ST X c fc) (hb : SB X body fb) : SS X (.While c body [] pos) (whl fc fb dead n) := ⟨psMono (ps_while hp hc.pt hb.ps) fun D σ H ⟨g, G, ss, s, o, s', wf, R, ef, q⟩ => by
  refine ⟨fun m σ H => ∃ G2 ss2 s2, Rel g G2 H σ ss2 s2 ∧ Same G G2 ∧ whl fc fb dead m ss2 s2 = some (o, s'), ⟨n, G, ss, s, R, Same.rfl, ef⟩, ?_⟩
  rintro m σ2 H2 ⟨G2, ss2, s2, R2, k2, e2⟩
  cases m with
  | zero => cases e2
  | succ m =>
  obtain ⟨k, s3, e3, e4⟩ := bnd_inv e2
  refine ⟨g, G2, ss2, s2, k, s3, R2, e3, fun G3 H3 R3 A3 => ?_⟩
  cases k with
  | false =>
    obtain ⟨e7, e8⟩ := ret_inv e4
    subst e7; subst e8
    exact q σ2 G3 H3 (R2.ext A3 R3) (Same.trans k2 A3.g)
  | true =>
    obtain ⟨o1, s4, e5, e6⟩ := bnd_inv e4
    refine ⟨fun σ H => ∃ G2 ss2 s2, Rel g G2 H σ ss2 s2 ∧ Same G G2 ∧ whl fc fb dead m ss2 s2 = some (o, s'), fun σ' H' w => ⟨m, Nat.lt_succ_self _, w⟩, g, G3, ss2, s3, o1, s4, wf, R2.ext A3 R3, e5, ?_⟩
    have k3 := Same.trans k2 A3.g
    cases o1 with
    | nx ss5 => exact fun σ5 G5 H5 R5 k5 => ⟨G5, _, s4, R5.weak dead rfl fun _ _ => rfl, Same.trans k3 k5, e6⟩
    | ct ss5 => exact fun σ5 G5 H5 R5 k5 => ⟨G5, _, s4, R5.weak dead rfl fun _ _ => rfl, Same.trans k3 k5, e6⟩
    | bk ss5 =>
      obtain ⟨e7, e8⟩ := ret_inv e6
      subst e7; subst e8
      exact fun σ5 G5 H5 R5 k5 => q σ5 G5 H5 R5 (Same.trans k3 k5)
    | rt d =>
      obtain ⟨e7, e8⟩ := ret_inv e6
      subst e7; subst e8
      exact fun v G5 H5 R5 k5 w => q v G5 H5 R5 (Same.trans k3 k5) w⟩
end
end Ev
end

section
set_option linter.all false
set_option Elab.async false
set_option maxRecDepth 100000
/-! Defs and calls. -/
namespace Ev
open PySem PyProof.Rows L2

/-- a def's promise -/
def spF (F : Fn) (n : Nat) : Sp := fun vs H Q _ => vs.length = n ∧ ∃ g G s as d s', RelE g G H s ∧ ArgsOk g.sa G (msk g.sa H) vs as ∧ F as s = some (d, s') ∧
  ∀ v G' H', RelE g G' H' s' → Adv g.sa G H G' H' → Dat G' v d → Q v H'
theorem ArgsOk.length {sa : List Addr} {G H : Hp} : ∀ {vs : List V} {as : List Slot}, ArgsOk sa G H vs as → vs.length = as.length
  | _, _, .nil => rfl
  | _, _, .cons _ b => congrArg (· + 1) b.length
theorem ArgsOk.at {sa : List Addr} {G H : Hp} : ∀ {vs : List V} {as : List Slot} (i : Nat) {a : Slot}, ArgsOk sa G H vs as → as[i]? = some a → ∃ v, vs[i]? = some v ∧ argOk sa G H v a
  | _, _, i, _, .nil, h => by simp at h
  | _, _, 0, _, .cons x t, h => by simp at h; subst h; exact ⟨_, rfl, x⟩
  | _, _, i + 1, _, .cons x t, h => by
    obtain ⟨v, e, q⟩ := t.at i (by simpa using h)
    exact ⟨v, by simpa using e, q⟩
theorem ArgsOk.mono {sa : List Addr} {G H G' H' : Hp} (k : Same G G') (k' : Same H H') : ∀ {vs : List V} {as : List Slot}, ArgsOk sa G H vs as → ArgsOk sa G' H' vs as
  | _, _, .nil => .nil
  | _, _, .cons (a := a) x t => .cons (by
    cases a with
    | vw n d => exact View.mono k k' (show View n G H _ d from x)
    | src => exact x
    | _ => exact x) (t.mono k k')
/-- the ghost of the callee -/
def Gh.callee (g : Gh) (G H : Hp) : Gh := ⟨G, msk g.sa H, fun a => H a ≠ none, g.sa⟩
theorem RelE.enter {g : Gh} {G H : Hp} {s : Src} (r : RelE g G H s) : RelE (g.callee G H) G H s :=
  ⟨r.gh, fun _ _ h => h, fun _ _ h => h, fun a h => .inl h, fun a h => h, r.src⟩
theorem callee_wf {g : Gh} {G H : Hp} : (g.callee G H).Wf := fun a h => by
  show H a ≠ none
  intro z
  exact h (by show msk g.sa H a = none; unfold msk; rw [z]; split <;> rfl)
theorem RelE.leave {g : Gh} {G H G' H' : Hp} {s s' : Src} (r : RelE g G H s) (r' : RelE (g.callee G H) G' H' s') : RelE g G' H' s' ∧ Adv g.sa G H G' H' := by
  have nw : ∀ a, G' a ≠ none → G a ≠ none ∨ H a = none := fun a h => by
    rcases r'.new a h with z | z
    · exact .inl z
    · exact .inr (Classical.not_not.mp z)
  refine ⟨⟨r'.gh, fun a o h => r'.bh a o (r.bh a o h), fun a o h => r'.g0 a o (r.g0 a o h), fun a h => ?_, fun a h => r'.old a (r.old a h), r'.src⟩, r'.g0, r'.bh, nw⟩
  rcases nw a h with z | z
  · exact r.new a z
  · exact .inr fun w => r.old a w z
theorem start_at {N : List Str} {vs : List V} {i : Nat} : (L2.start N vs)[i]? = if i < vs.length then (vs[i]?).map some else if i < vs.length + (N.length - vs.length) then some none else none := by
  unfold L2.start
  by_cases h : i < vs.length
  · rw [if_pos h, List.getElem?_append_left (by simpa using h), List.getElem?_map]
  · rw [if_neg h, List.getElem?_append_right (by simpa using h), List.getElem?_replicate, List.length_map]
    by_cases h2 : i < vs.length + (N.length - vs.length)
    · rw [if_pos h2, if_pos (by omega)]
    · rw [if_neg h2, if_neg (by omega)]
theorem Rel.start {g : Gh} {G H : Hp} {s : Src} {N : List Str} {vs : List V} {as : List Slot} (r : RelE g G H s) (b : g.B = msk g.sa H) (a : ArgsOk g.sa G (msk g.sa H) vs as) (hn : as.length ≤ N.length) :
    Rel g G H (L2.start N vs) (as ++ List.replicate (N.length - as.length) .dead) s := by
  have hl := a.length
  refine ⟨r, by unfold L2.start; rw [List.length_append, List.length_append, List.length_map, List.length_replicate, List.length_replicate, hl], fun _ => [], ⟨fun i => ?_, fun _ => List.nodup_nil, fun i p hp => absurd hp (by simp), fun i j p hp _ => absurd hp (by simp)⟩⟩
  rw [start_at, hl]
  by_cases h : i < as.length
  · rw [if_pos h, List.getElem?_append_left h]
    obtain ⟨v, e, q⟩ := a.at i (List.getElem?_eq_getElem h)
    rw [e, List.getElem?_eq_getElem h]
    generalize as[i] = sl at q
    cases sl with
    | vw n d => exact ⟨v, rfl, by rw [b]; exact q, rfl⟩
    | src => obtain ⟨p, c, e1, e2⟩ := q; exact ⟨p, c, by rw [e2]; rfl, e1, rfl⟩
    | dead => exact q.elim
    | own _ _ => exact q.elim
    | lck _ _ => exact q.elim
  · rw [if_neg h, List.getElem?_append_right (by omega), List.getElem?_replicate]
    by_cases h2 : i < as.length + (N.length - as.length)
    · rw [if_pos h2, if_pos (by omega)]; rfl
    · rw [if_neg h2, if_neg (by omega)]; rfl
section
variable {P : Program} {w : World} {K : PySem.W.Frag} {mg : Str → Option Value} {base : Heap}
theorem fn_ev {x qual : Str} {st : Stmt} {f : Addr} {fd : FuncData} {N ps : List Str} {k : Nat} {fb : EvS} (F : Fun K x qual st f fd) (S : FnScope N ps (defScope st))
    (hbody : ∀ (cdv : Value) (A : Around) (outer : List Env) (s : Shared) (H : Hp) (E : XK), Room k (A.deeper (envOfC qual (defScope st) s.heap.objs.size f cdv)) → SB (cxOf CX0 P w K mg base N qual (defScope st) f cdv A outer s H E).nox (defBody st) fb) :
    FnOk P w K mg base CX0 (k + 1) f fd ps (spF (runF N.length fb) ps.length) := by
  refine F.ok S (fun vs H Q E h => h.1) (fun cdv A outer s H vs Q E hr h => ?_)
  obtain ⟨hl, g, G, s0, as, d, s', R, a, e, q⟩ := h
  refine ⟨_, (hbody cdv A outer s H E hr).ps, ?_⟩
  obtain ⟨o, s1, e1, e2⟩ := bnd_inv e
  have hpl : ps.length ≤ N.length := by have := congrArg List.length S.pre; rw [List.length_take] at this; omega
  refine ⟨g.callee G H, G, _, s0, o, s1, callee_wf, Rel.start R.enter rfl a (by rw [← a.length, hl]; exact hpl), e1, ?_⟩
  cases o with
  | nx ss' =>
    obtain ⟨e3, e4⟩ := ret_inv e2
    subst e3; subst e4
    exact fun σ' G' H' r' k' => q _ G' H' (R.leave r'.e).1 (R.leave r'.e).2 .non
  | rt d' =>
    obtain ⟨e3, e4⟩ := ret_inv e2
    subst e3; subst e4
    exact fun v G' H' r' k' w' => q _ G' H' (R.leave r').1 (R.leave r').2 w'
  | bk _ => cases e2
  | ct _ => cases e2
end
section
variable {X : Cx} {n m i k : Nat} {e : Expr} {es : List Expr} {f : EvE} {fa : EvA} {p pos : Pos} {x : Str}
theorem sa_nil : SA X [] argsN := ⟨paMono pa_nil fun σ H Q ⟨g, G, ss, s, as, s', R, ef, q⟩ => by
  obtain ⟨e1, e2⟩ := ret_inv ef
  subst e1; subst e2
  exact q [] G H R.e (Adv.refl _ _ _) .nil, fun ss s as s' e => by cases (ret_inv e).1; rfl⟩
theorem sa_vw (ha : SE X n e f) (hr : SA X es fa) (hs : starEach (e :: es) X.env = (false, eval e X.env) :: starEach es X.env := by rfl) : SA X (e :: es) (argsE n f fa) := ⟨paMono (pa_cons ha.pe hr.pa hs) fun σ H Q ⟨g, G, ss, s, as, s', R, ef, q⟩ => by
  obtain ⟨dx, s1, e1, f1⟩ := bnd_inv ef
  obtain ⟨dy, s2, e2, f2⟩ := bnd_inv f1
  obtain ⟨e3, e4⟩ := ret_inv f2
  subst e3; subst e4
  exact ⟨g, G, ss, s, dx, s1, R, e1, fun x G1 H1 R1 A1 w1 => ⟨g, G1, ss, s1, dy, s', R.ext A1 R1, e2, fun vs G2 H2 R2 A2 w2 => q _ G2 H2 R2 (A1.trans R1 A2 ⟨_, R2⟩) (.cons (show argOk g.sa G2 (msk g.sa H2) x (.vw n dx) from View.mono A2.g A2.h w1) w2)⟩⟩, fun ss s as s' ef => by
  obtain ⟨dx, s1, e1, f1⟩ := bnd_inv ef
  obtain ⟨dy, s2, e2, f2⟩ := bnd_inv f1
  obtain ⟨e3, e4⟩ := ret_inv f2
  subst e3
  exact congrArg (· + 1) (hr.len _ _ _ _ e2)⟩
theorem sa_src (hp : PE X e (tVar i)) (hr : SA X es fa) (hs : starEach (e :: es) X.env = (false, eval e X.env) :: starEach es X.env := by rfl) : SA X (e :: es) (argsS i fa) := ⟨paMono (pa_cons hp hr.pa hs) fun σ H Q ⟨g, G, ss, s, as, s', R, ef, q⟩ => by
  unfold argsS at ef
  cases e1 : ss[i]? with
  | none => rw [e1] at ef; cases ef
  | some sl =>
    rw [e1] at ef
    cases sl <;> try (cases ef; done)
    obtain ⟨dy, s2, e2, f2⟩ := bnd_inv ef
    obtain ⟨e3, e4⟩ := ret_inv f2
    subst e3; subst e4
    obtain ⟨F, f⟩ := R.f
    have ok := f.ok i
    rw [e1] at ok
    obtain ⟨p, c, ev, es, _⟩ := ok
    exact ⟨.ref p, ev, g, G, ss, s, dy, s', R, e2, fun vs G2 H2 R2 A2 w2 => q _ G2 H2 R2 A2 (.cons (show argOk g.sa G2 (msk g.sa H2) (.ref p) .src from ⟨p, c, es, rfl⟩) w2)⟩, fun ss s as s' ef => by
  unfold argsS at ef
  cases e1 : ss[i]? with
  | none => rw [e1] at ef; cases ef
  | some sl =>
    rw [e1] at ef
    cases sl <;> try (cases ef; done)
    obtain ⟨dy, s2, e2, f2⟩ := bnd_inv ef
    obtain ⟨e3, e4⟩ := ret_inv f2
    subst e3
    exact congrArg (· + 1) (hr.len _ _ _ _ e2)⟩
theorem se_call {fn : Addr} {fd : FuncData} {ps : List Str} {Fn : Fn} (F : FnOk X.prog X.w X.K X.mg X.base CX0 k fn fd ps (spF Fn ps.length)) (hr : Room k X.A) (hg : Gl X x) (hm : X.mg x = some (.ref fn)) (hk : PySem.W.keepIn X.K (.ref fn) = true) (hb : Binds X.K fd ps [])
    (ha : SA X (e :: es) fa) (hlen : (e :: es).length = ps.length := by rfl) (hdb : (x == ("__debug__" : Str)) = false := by decide) (he : starEach (e :: es) X.env = (false, eval e X.env) :: starEach es X.env := by rfl) (hpl : (backTo pos (starEach es X.env)).any (·.1) = false := by rfl) :
    SE X n (.Call (.Name x p) (e :: es) [] pos) (callE Fn fa) := ⟨peMono (pe_call (E := fun _ _ _ => False) F hr hg hm hk hb .nil pass0 ha.pa hdb he hpl) fun σ H Q ⟨g, G, ss, s, d, s', R, ef, q⟩ => by
  obtain ⟨as, s1, e1, e2⟩ := bnd_inv ef
  refine ⟨g, G, ss, s, as, s1, R, e1, fun vs G1 H1 R1 A1 a => ?_⟩
  refine ⟨by rw [List.append_nil, a.length, ha.len _ _ _ _ e1]; exact hlen, g, G1, s1, as, d, s', R1, by rw [List.append_nil]; exact a, e2, fun v G2 H2 R2 A2 w2 => q v G2 H2 R2 (A1.trans R1 A2 ⟨_, R2⟩) (.of w2 n)⟩⟩
end
end Ev
end

section
set_option linter.all false
set_option Elab.async false
set_option maxRecDepth 100000
/-! repr of data, turned sequences, sorted. -/
namespace Ev
open PySem PyProof.Rows L2

/-- the modules' table stands -/
def SMok (h : Heap) : Prop := ∃ o es ep, h.get? sysModules = some o ∧ o.data = .dict es ep
theorem smok_of {h : Heap} (x : h.NoSeer) : SMok h := by
  obtain ⟨mm, ⟨o, es, ep, e, d, _⟩, _⟩ := x.mods
  exact ⟨o, es, ep, e, d⟩
section
variable {X : Cx} {pins : List (Addr × Obj)} {σ : L2.St} {H : Hp} {s : Shared}
theorem readsAll_keys {P : Program} {w : World} {h : PySem.Heap} : ∀ {kvs : List (Key × V)} {vs : List (Key × Value)} {es : List DictEntry}, KV kvs vs → Pairs (mixKind P w) es vs → ReadsAll h (es.map (·.key)) (kvs.map fun p => keyD p.1) []
  | _, _, _, .nil, z => by cases z; exact .nil
  | _, _, _, .cons r t, z => by
    cases z with
    | cons hk hv ht =>
      rename_i a b l1 l2 e es
      have ih := readsAll_keys (h := h) t ht
      have hk' : keyIs b.1 e.key = true := hk
      rw [← r.1] at hk'
      have one : Reads h e.key (keyD a.1) [] := by
        rcases keyIs_shape hk' with ⟨i, t, e1, e2⟩ | ⟨x, t, e1, e2⟩
        · rw [e1, e2]; exact Reads.int i t
        · rw [e1, e2]; exact Reads.str x t
      exact ReadsAll.cons one ih
theorem vals_snd {P : Program} {w : World} : ∀ {kvs : List (Key × V)} {vs : List (Key × Value)} {es : List DictEntry}, KV kvs vs → Pairs (mixKind P w) es vs → Vals (kvs.map (·.2)) (es.map (·.val))
  | _, _, _, .nil, h => by cases h; exact .nil
  | _, _, _, .cons r t, h => by
    cases h with
    | cons hk hv ht =>
      refine .cons ?_ (vals_snd t ht)
      dsimp only
      rw [hv]; exact r.2
mutual
theorem Dat.reads (I : Inv X pins σ H s) (sm : SMok X.base) : ∀ {v : V} {d : D}, Dat H v d → ∀ {u : Value}, RelV v u → ∃ as, Reads s.heap u d as ∧ sysModules ∉ as
  | _, _, .non, u, r => by cases r; exact ⟨_, Reads.none, by simp⟩
  | _, _, .bl b, u, r => by cases r; exact ⟨_, Reads.bool b, by simp⟩
  | _, _, .int i, u, r => by obtain ⟨t, rfl⟩ := r; exact ⟨_, Reads.int i t, by simp⟩
  | _, _, .str x, u, r => by obtain ⟨t, rfl⟩ := r; exact ⟨_, Reads.str x t, by simp⟩
  | _, _, .tup h _ l, u, r => by
    cases r
    obtain ⟨_, _, its, rv, o, ho, hc, n, hd⟩ := I.hok _ _ h
    obtain ⟨as, hr, hn⟩ := DatL.reads I sm l rv
    exact ⟨_, Reads.tuple ho hc hd hr, hn⟩
  | _, _, .lst (a := a) h l, u, r => by
    cases r
    obtain ⟨_, its, n, rv, e⟩ := I.hok _ _ h
    obtain ⟨as, hr, hn⟩ := DatL.reads I sm l rv
    refine ⟨_, Reads.list e rfl rfl hr, fun z => ?_⟩
    rcases List.mem_cons.mp z with z | z
    · obtain ⟨o, es, ep, e2, d2⟩ := sm
      have := I.bk _ _ e2
      rw [z, e] at this
      cases this
      cases d2
    · exact hn z
  | _, _, .dK (a := a) (kvs := kvs) (ks := ks) (vs := ds) h e l, u, r => by
    cases r
    obtain ⟨_, hs, vs, kv, o, es, ep, ho, hx, hd, _, hp, _⟩ := I.hok _ _ h
    obtain ⟨as, hr, hn⟩ := DatL.reads I sm l (vals_snd kv hp)
    have hl : ks.length = ds.length := by rw [e, List.length_map, ← l.length, List.length_map]
    have e1 : (ks.zip ds).map (·.1) = ks := List.map_fst_zip (by omega)
    have e2 : (ks.zip ds).map (·.2) = ds := List.map_snd_zip (by omega)
    refine ⟨_, Reads.dict ho hx.1 hd (as := []) (by rw [e1, e]; exact readsAll_keys kv hp) (by rw [e2]; exact hr), fun z => ?_⟩
    rcases List.mem_append.mp z with z | z
    · rcases List.mem_cons.mp z with z | z
      · rw [← z] at hs
        simp at hs
      · cases z
    · exact hn z
theorem DatL.reads (I : Inv X pins σ H s) (sm : SMok X.base) : ∀ {vs : List V} {ds : List D}, DatL H vs ds → ∀ {us : List Value}, Vals vs us → ∃ as, ReadsAll s.heap us ds as ∧ sysModules ∉ as
  | _, _, .nil, _, r => by cases r; exact ⟨_, ReadsAll.nil, by simp⟩
  | _, _, .cons a t, _, r => by
    cases r with
    | cons r1 r2 =>
      obtain ⟨as, q1, n1⟩ := Dat.reads I sm a r1
      obtain ⟨bs, q2, n2⟩ := DatL.reads I sm t r2
      exact ⟨_, ReadsAll.cons q1 q2, fun z => (List.mem_append.mp z).elim n1 n2⟩
end
end
/-- repr(x) -/
def rRepr : List V → Hp → VK → Prop := fun xs H Q => ∃ x d, xs = [x] ∧ Dat H x d ∧ d.showable = true ∧ d.depth ≤ 60 ∧ d.shown.length ≤ lim ∧ Q (.str d.shown) H
theorem call_reprD {X : Cx} (hg : X.A.guards = some []) (hu : X.A.units + 64 < cLine) (sm : SMok X.base) : CallR X (.builtin "repr") rRepr := by
  intro pins s σ H xs us Q I r h
  obtain ⟨x, d, rfl, hd, hs, hdep, hz, q⟩ := h
  obtain ⟨u, rfl, ru⟩ := vals1 r
  have hz' : d.shown.length ≤ sizeLine := by rw [← lim_eq]; exact hz
  obtain ⟨as, rd, sm'⟩ := Dat.reads I sm hd ru
  cases id hd with
  | non => cases ru; exact PySem.P.repr_of_none ⟨.str _, H, I.tok _, ⟨_, rfl⟩, by simpa [PyData.shown] using q⟩
  | bl b => cases ru; exact PySem.P.repr_of_bool ⟨.str _, H, I.tok _, ⟨_, rfl⟩, by simpa [PyData.shown] using q⟩
  | int i => obtain ⟨t, rfl⟩ := ru; exact PySem.P.repr_of_int (by simpa [PyData.showable] using hs) ⟨.str _, H, I.tok _, ⟨_, rfl⟩, by simpa [PyData.shown] using q⟩
  | str x => obtain ⟨t, rfl⟩ := ru; exact PySem.P.repr_of_str ⟨.str _, H, I.tok _, ⟨_, rfl⟩, by simpa [PyData.shown] using q⟩ (by simpa [PyData.shown] using hz')
  | tup h _ l => cases ru; exact repr_of_reads' rd hs (fun _ => sm') hg (by omega) (fun b o e => e) (fun h' u tk hk => ⟨.str _, H, I.kept (t' := tk) hk, ⟨_, rfl⟩, q⟩) hz'
  | lst h l => cases ru; exact repr_of_reads' rd hs (fun _ => sm') hg (by omega) (fun b o e => e) (fun h' u tk hk => ⟨.str _, H, I.kept (t' := tk) hk, ⟨_, rfl⟩, q⟩) hz'
  | dK h e l => cases ru; exact repr_of_reads' rd hs (fun _ => sm') hg (by omega) (fun b o e => e) (fun h' u tk hk => ⟨.str _, H, I.kept (t' := tk) hk, ⟨_, rfl⟩, q⟩) hz'
theorem c_repr {X : Cx} {m : Nat} (hg : X.A.guards = some []) (hu : X.A.units + 64 < cLine) (sm : SMok X.base) : Call1 X m (.builtin "repr") reprD := by
  refine ⟨_, call_reprD hg hu sm, fun g G H s x dx d Q R wx e q => ?_⟩
  unfold reprD at e
  split at e
  case isFalse => cases e
  rename_i h
  cases e
  simp only [Bool.and_eq_true, decide_eq_true_eq] at h
  exact ⟨x, dx, rfl, (wx.now R), h.1.1, h.1.2, h.2, q _ G H R (Adv.refl _ _ _) (.str _)⟩
end Ev
end

section
set_option linter.all false
set_option Elab.async false
set_option maxRecDepth 100000
/-! sorted: whole numbers, tuples of whole numbers; turned lists and tuples. -/
namespace Ev
open PySem PyProof.Rows L2

/-! ### pure: rows by their first difference -/
def lexL : List Int → List Int → Bool
  | [], [] => false
  | [], _ :: _ => true
  | _ :: _, [] => false
  | a :: r, b :: t => if a = b then lexL r t else decide (a < b)
def insL (a : List Int) : List (List Int) → List (List Int)
  | [] => [a]
  | b :: r => if lexL b a then b :: insL a r else a :: b :: r
def isortL : List (List Int) → List (List Int)
  | [] => []
  | a :: r => insL a (isortL r)
def asTups : List D → Option (List (List Int))
  | [] => some []
  | .tuple ds :: r => (asInts ds).bind fun ns => if ns = [] then none else (asTups r).map (ns :: ·)
  | _ :: _ => none
def tupI (ns : List Int) : D := .tuple (ns.map .int)
def sortT (x : D) : Option D := match x with
  | .list ds => (asTups ds).map fun ts => .list ((isortL ts).map tupI)
  | _ => none
def sortI' (x : D) : Option D := match x with
  | .list ds => (asInts ds).map fun ns => .list ((isort ns).map .int)
  | _ => none
def revLD (x : D) : Option D := match x with
  | .list ds => some (.list ds.reverse)
  | _ => none
def revTD (x : D) : Option D := match x with
  | .tuple ds => some (.tuple ds.reverse)
  | _ => none
def sortTR (x : D) : Option D := match x with
  | .list ds => (asTups ds).map fun ts => .list ((isortL ts).reverse.map tupI)
  | _ => none
theorem lexL_asym : ∀ x y, lexL x y = true → lexL y x = false
  | [], [], h => by cases h
  | [], _ :: _, _ => rfl
  | _ :: _, [], h => by cases h
  | a :: r, b :: t, h => by
    unfold lexL at h ⊢
    by_cases e : a = b
    · subst e
      rw [if_pos rfl] at h ⊢
      exact lexL_asym r t h
    · rw [if_neg e] at h
      rw [if_neg (Ne.symm e)]
      have := of_decide_eq_true h
      exact decide_eq_false (by omega)
theorem lexL_tr : ∀ x y z, lexL y x = false → lexL z y = false → lexL z x = false
  | [], _, [], _, _ => rfl
  | [], [], _ :: _, h1, h2 => by first | rfl | cases h2
  | [], _ :: _, _ :: _, h1, h2 => rfl
  | _ :: _, [], _, h1, h2 => by cases h1
  | _ :: _, _ :: _, [], h1, h2 => by cases h2
  | a :: r, b :: t, c :: u, h1, h2 => by
    unfold lexL at h1 h2 ⊢
    by_cases e1 : b = a
    · by_cases e2 : c = b
      · subst e1; subst e2
        rw [if_pos rfl] at h1 h2 ⊢
        exact lexL_tr r t u h1 h2
      · subst e1
        rw [if_neg e2] at h2 ⊢
        exact h2
    · rw [if_neg e1] at h1
      have k1 := of_decide_eq_false h1
      by_cases e2 : c = b
      · subst e2
        rw [if_neg e1]
        exact h1
      · rw [if_neg e2] at h2
        have k2 := of_decide_eq_false h2
        rw [if_neg (by omega)]
        exact decide_eq_false (by omega)
theorem lexL_eq : ∀ x y, lexL x y = false → lexL y x = false → x = y
  | [], [], _, _ => rfl
  | [], _ :: _, h, _ => by cases h
  | _ :: _, [], _, h => by cases h
  | a :: r, b :: t, h1, h2 => by
    unfold lexL at h1 h2
    by_cases e : a = b
    · subst e
      rw [if_pos rfl] at h1 h2
      rw [lexL_eq r t h1 h2]
    · rw [if_neg e] at h1
      rw [if_neg (Ne.symm e)] at h2
      have k1 := of_decide_eq_false h1
      have k2 := of_decide_eq_false h2
      omega
theorem lexL_refl : ∀ x, lexL x x = false
  | [] => rfl
  | a :: r => by unfold lexL; rw [if_pos rfl]; exact lexL_refl r
theorem swoL (k : Value → List Int) : SrtO.Swo fun v u => lexL (k v) (k u) := ⟨fun x y h => lexL_asym _ _ h, fun x y z h1 h2 => lexL_tr _ _ _ h1 h2⟩
abbrev SrtL (l : List (List Int)) : Prop := l.Pairwise fun x y => lexL y x = false
theorem insL_perm (a : List Int) : ∀ l, (insL a l).Perm (a :: l)
  | [] => List.Perm.refl _
  | b :: r => by
    unfold insL
    split
    · exact ((insL_perm a r).cons b).trans (List.Perm.swap a b r)
    · exact List.Perm.refl _
theorem isortL_perm : ∀ l, (isortL l).Perm l
  | [] => List.Perm.refl _
  | a :: r => (insL_perm a (isortL r)).trans ((isortL_perm r).cons a)
theorem insL_srt (a : List Int) : ∀ l, SrtL l → SrtL (insL a l)
  | [], _ => List.pairwise_singleton _ _
  | b :: r, h => by
    have h' := List.pairwise_cons.mp h
    unfold insL
    split
    · rename_i c
      refine List.pairwise_cons.mpr ⟨fun x hx => ?_, insL_srt a r h'.2⟩
      rcases List.mem_cons.mp ((insL_perm a r).mem_iff.mp hx) with z | z
      · rw [z]; exact lexL_asym _ _ c
      · exact h'.1 x z
    · rename_i c
      have c' : lexL b a = false := by simpa using c
      refine List.pairwise_cons.mpr ⟨fun x hx => ?_, h⟩
      rcases List.mem_cons.mp hx with z | z
      · rw [z]; exact c'
      · exact lexL_tr _ _ _ c' (h'.1 x z)
theorem isortL_srt : ∀ l, SrtL (isortL l)
  | [] => List.Pairwise.nil
  | a :: r => insL_srt a _ (isortL_srt r)
theorem srtL_unique : ∀ {l m : List (List Int)}, l.Perm m → SrtL l → SrtL m → l = m
  | [], m, p, _, _ => (List.nil_perm.mp p).symm
  | a :: l, [], p, _, _ => absurd p.length_eq (by simp)
  | a :: l, b :: m, p, h, h' => by
    have h1 := List.pairwise_cons.mp h
    have h2 := List.pairwise_cons.mp h'
    have e : a = b := by
      have a1 : a ∈ b :: m := p.mem_iff.mp List.mem_cons_self
      have b1 : b ∈ a :: l := p.mem_iff.mpr List.mem_cons_self
      rcases List.mem_cons.mp a1 with z | z
      · exact z
      · rcases List.mem_cons.mp b1 with w | w
        · exact w.symm
        · exact lexL_eq _ _ (h2.1 a z) (h1.1 b w)
    subst e
    rw [srtL_unique p.cons_inv h1.2 h2.2]

/-! ### the machine -/
def IsTI (h : PySem.Heap) (v : Value) (ns : List Int) : Prop := ∃ a o its n, v = .ref a ∧ h.get? a = some o ∧ o.cls = .type "tuple" ∧ o.data = .seq its n ∧ IntsAre its.toList ns
def kI (h : PySem.Heap) : Value → List Int
  | .ref a => match h.get? a with
    | some o => match o.data with
      | .seq its _ => its.toList.map fun | .int i _ => i | _ => 0
      | _ => []
    | none => []
  | _ => []
theorem intsAre_map : ∀ {vs : List Value} {ns : List Int}, IntsAre vs ns → (vs.map fun | .int i _ => i | _ => 0) = ns
  | _, _, .nil => rfl
  | _, _, .cons n t h => by rw [List.map_cons, intsAre_map h]
theorem IsTI.k {h : PySem.Heap} {v : Value} {ns : List Int} (x : IsTI h v ns) : kI h v = ns := by
  obtain ⟨a, o, its, n, rfl, e, _, d, i⟩ := x
  unfold kI
  dsimp only
  rw [e]
  dsimp only
  rw [d]
  exact intsAre_map i
theorem IsTI.keeps {h h' : PySem.Heap} {v : Value} {ns : List Int} (x : IsTI h v ns) (k : ∀ b o, h.get? b = some o → o.cls = .type "tuple" → h'.get? b = some o) : IsTI h' v ns := by
  obtain ⟨a, o, its, n, e0, e, c, d, i⟩ := x
  exact ⟨a, o, its, n, e0, k a o e c, c, d, i⟩
section
variable {prog : Program} {w : World} {A : Around} {s : Shared}
theorem katI {fin : Bool} {Q : Bool → Shared → Prop} : ∀ {vs ws : List Value} {xs ys : List Int} (i : Nat), IntsAre vs xs → IntsAre ws ys → fin = decide (xs.length < ys.length) → Q (lexL xs ys) s → PySem.W.KatLex prog w A true fin Q (vs.zip ws) i s
  | [], [], _, _, i, .nil, .nil, e, q => PySem.W.kat_nil (by rw [e]; exact q)
  | [], _ :: _, _, _, i, .nil, .cons .., e, q => PySem.W.kat_nil (by rw [e]; simpa [lexL] using q)
  | _ :: _, [], _, _, i, .cons .., .nil, e, q => PySem.W.kat_nil (by rw [e]; simpa [lexL] using q)
  | _ :: vs, _ :: ws, _, _, i, .cons x t hx, .cons y u hy, e, q => by
    refine PySem.W.kat_cons (SeqAt.EqAt.int_int x t y u prog w _ _ ?_)
    refine PySem.W.kat_go (fun e1 => ?_) (fun e1 => ?_)
    · have ex : x = y := by simpa using e1
      refine PySem.W.kat_yes (katI (i + 1) hx hy (by rw [e]; simp) ?_)
      unfold lexL at q
      rw [if_pos ex] at q
      exact q
    · have ex : ¬ x = y := by simpa using e1
      refine PySem.W.kat_no (TS.oneLt_ints _ ?_)
      unfold lexL at q
      rw [if_neg ex] at q
      exact q
theorem tisFirsts {h : PySem.Heap} : ∀ {vs : List Value}, (∀ v ∈ vs, ∃ n ns, IsTI h v (n :: ns)) → ∃ fs : List Value, PySem.W.KatTups h vs fs ∧ fs.length = vs.length ∧ ∀ f ∈ fs, ∃ x t, f = Value.int x t
  | [], _ => ⟨[], PySem.W.KatTups.nil, rfl, fun _ hm => by simp at hm⟩
  | v :: vs, hp => by
    obtain ⟨fs, h1, h2, h3⟩ := tisFirsts (vs := vs) fun v' hm => hp v' (List.mem_cons_of_mem _ hm)
    obtain ⟨n, ns, a, o, its, m, rfl, ho, hc, hd, hi⟩ := hp v List.mem_cons_self
    obtain ⟨l⟩ := its
    cases hi with
    | cons x t hx =>
      refine ⟨.int n t :: fs, PySem.W.KatTups.cons ho hc hd rfl h1, by rw [List.length_cons, List.length_cons, h2], fun f hm => ?_⟩
      rcases List.mem_cons.mp hm with rfl | hm
      · exact ⟨n, t, rfl⟩
      · exact h3 f hm
theorem tisCmp {vs : List Value} (h0 : PySem.Heap) (hp : ∀ v ∈ vs, ∃ n ns, IsTI s.heap v (n :: ns)) (he : ∀ v ∈ vs, kI s.heap v = kI h0 v) : SrtO.Cmp prog w A s (tuples' true) (fun p => p.1 ∈ vs) (SrtO.lt2 fun v u => lexL (kI h0 v) (kI h0 u)) := by
  intro p q hm hm'
  obtain ⟨n1, ns1, h1⟩ := hp _ hm
  obtain ⟨n2, ns2, h2⟩ := hp _ hm'
  show wpAny (model prog w) A (keyLt' (tuples' true) p.1 q.1) (fun r s' => s' = s ∧ r = lexL (kI h0 p.1) (kI h0 q.1)) (fun _ _ => False) s
  rw [← he _ hm, ← he _ hm', h1.k, h2.k]
  obtain ⟨a, o, its, m, e, ho, hc, hd, hi⟩ := h1
  obtain ⟨a', o', its', m', e', ho', hc', hd', hi'⟩ := h2
  rw [e, e']
  refine PySem.W.kat_lt ho hd ho' hd' (katI 0 hi hi' ?_ ⟨rfl, rfl⟩)
  rw [← Array.length_toList, ← Array.length_toList, hi.length, hi'.length]
theorem tisSortable {a : Addr} {vs : List Value} (h0 : PySem.Heap) (hn : 0 < vs.length) (hp : ∀ v ∈ vs, ∃ n ns, IsTI s.heap v (n :: ns)) (he : ∀ v ∈ vs, kI s.heap v = kI h0 v) (ha : ∀ o, s.heap.get? a = some o → o.cls ≠ .type "tuple") :
    SrtO.SortableO prog w A s a vs fun v u => lexL (kI h0 v) (kI h0 u) := by
  intro h' keep
  have kk : ∀ {v : Value} {ns : List Int}, IsTI s.heap v ns → IsTI h' v ns := fun x => x.keeps fun b o e c => keep b o (fun z => by subst z; exact ha o e c) e
  have hp' : ∀ v ∈ vs, ∃ n ns, IsTI h' v (n :: ns) := fun v hm => let ⟨n, ns, x⟩ := hp v hm; ⟨n, ns, kk x⟩
  obtain ⟨fs, h1, h2, h3⟩ := tisFirsts hp'
  refine ⟨tuples' true, fun Q E hq => ?_, tisCmp (s := { s with heap := h' }) h0 hp' fun v hm => ?_⟩
  · refine PySem.W.kat_kind (T := .type "int") h1 (by omega) (fun f hm => ?_) (by rfl) ?_
    · obtain ⟨x, t, rfl⟩ := h3 f hm
      exact PySem.W.Looks.now
    · have e : (Value.type "int" != Value.type "tuple") = true := by first | decide +kernel | rfl | decide
      rw [e]
      exact hq
  · obtain ⟨n, ns, x⟩ := hp v hm
    rw [← he v hm, x.k]
    exact (kk x).k
end
/-! ### the rules -/
theorem asTups_is : ∀ {ds : List D} {ts : List (List Int)}, asTups ds = some ts → ds = ts.map tupI ∧ ∀ t ∈ ts, t ≠ []
  | [], _, h => by cases h; exact ⟨rfl, fun _ h => by cases h⟩
  | .tuple xs :: r, ts, h => by
    unfold asTups at h
    cases e : asInts xs with
    | none => rw [e] at h; cases h
    | some ns =>
      rw [e] at h
      have h' : (if ns = [] then none else (asTups r).map (ns :: ·)) = some ts := h
      split at h'
      · cases h'
      · rename_i hne
        cases e2 : asTups r with
        | none => rw [e2] at h'; cases h'
        | some us =>
          rw [e2] at h'
          cases h'
          obtain ⟨h1, h2⟩ := asTups_is e2
          refine ⟨by rw [h1, asInts_eq e]; rfl, fun t ht => ?_⟩
          rcases List.mem_cons.mp ht with z | z
          · rw [z]; exact hne
          · exact h2 t z
  | .none :: _, _, h => by cases h
  | .bool _ :: _, _, h => by cases h
  | .int _ :: _, _, h => by cases h
  | .str _ :: _, _, h => by cases h
  | .list _ :: _, _, h => by cases h
  | .dict _ :: _, _, h => by cases h
section
variable {X : Cx} {pins : List (Addr × Obj)} {σ : L2.St} {H : Hp} {s : Shared}
/-- rows of whole numbers in a tracked list -/
theorem tupsAt {G : Hp} (I : Inv X pins σ H s) (kg : Same G H) : ∀ {ts : List (List Int)} {xs : List V} {its : List Value}, DatL G xs (ts.map tupI) → Vals xs its → xs = its.map backV ∧ its.map (kI s.heap) = ts ∧ ∀ v ∈ its, (∃ a, v = Value.ref a) ∧ Dat G (backV v) (tupI (kI s.heap v)) ∧ IsTI s.heap v (kI s.heap v)
  | [], _, _, .nil, .nil => ⟨rfl, rfl, fun _ h => by cases h⟩
  | t :: ts, _, _, .cons a l, .cons r rr => by
    obtain ⟨e1, e2, e3⟩ := tupsAt I kg l rr
    cases id a with
    | tup h hn l' =>
      cases r
      rename_i ad o vs
      obtain ⟨_, _, its2, rv2, o2, ho, hc, n, hd⟩ := I.hok _ _ (kg _ _ h)
      rw [l'.of_ints] at rv2
      have x : IsTI s.heap (.ref ad) t := ⟨ad, o2, its2.toArray, n, rfl, ho, hc, hd, by simpa using rv2.ints⟩
      refine ⟨by rw [e1]; rfl, by rw [List.map_cons, e2, x.k], fun v hv => ?_⟩
      rcases List.mem_cons.mp hv with z | z
      · subst z
        rw [x.k]
        exact ⟨⟨ad, rfl⟩, a, x⟩
      · exact e3 v z
def rSortT (b : Bool) : List V → List V → Hp → VK → Prop := fun vs zs H Q => ∃ (G : Hp) (a : Addr) (xs : List V) (ts : List (List Int)), Same G H ∧ vs = [V.ref a] ∧ zs = [.bl b] ∧ H a = some (.lst xs) ∧ DatL G xs (ts.map tupI) ∧ (∀ t ∈ ts, t ≠ []) ∧
  ∀ (ys : List V) (p : Addr), DatL G ys ((if b then (isortL ts).reverse else isortL ts).map tupI) → H p = none → Q (.ref p) (upd H p (.lst ys))
theorem datBack {H : Hp} {k : Value → List Int} : ∀ {us : List Value}, (∀ v ∈ us, Dat H (backV v) (tupI (k v))) → DatL H (us.map backV) ((us.map k).map tupI)
  | [], _ => .nil
  | u :: us, h => .cons (h u List.mem_cons_self) (datBack fun v hv => h v (List.mem_cons_of_mem _ hv))
theorem cr_sortT {b : Bool} : CallRK X (.builtin "sorted") [Str.ofString "reverse"] (rSortT b) := by
  intro pins s σ H vs zs us ws Q I r rz h
  obtain ⟨G, a, xs, ts, kg, rfl, rfl, ha, l, hne, q⟩ := h
  obtain rfl := Vals.ref1 r
  obtain ⟨w1, rfl, e1⟩ := vals1 rz
  obtain rfl : w1 = Value.bool b := e1
  obtain ⟨its, rv, hl, hz⟩ := I.list (.inl (.inl ha))
  obtain ⟨t1, t2, t3⟩ := tupsAt I kg l rv
  have nz : ∀ v ∈ its, ∃ n ns, IsTI s.heap v (n :: ns) := fun v hv => by
    have x := (t3 v hv).2.2
    have hk : kI s.heap v ∈ ts := by rw [← t2]; exact List.mem_map.mpr ⟨v, hv, rfl⟩
    cases e : kI s.heap v with
    | nil => exact absurd e (hne _ hk)
    | cons n ns => rw [e] at x; exact ⟨n, ns, x⟩
  refine SrtR.sorted_ordK (b := b) (fun _ => rfl) (PyProof.Rows.args_sorted_rev _ _) (fun _ => PyProof.Rows.args_list_sort_rev _ _) (swoL (kI s.heap)) hl.isList (by rw [← rv.length]; exact hz) (fun h2 h₁ a' ha' kk => ?_) fun out h1 h2 => ?_
  · have up : ∀ {v : Value} {ns : List Int}, IsTI s.heap v ns → IsTI h₁ v ns := fun x => x.keeps fun b o e c => (kk b o e).2
    refine tisSortable (s := { s with heap := h₁ }) s.heap (by omega) (fun v hv => let ⟨n, ns, x⟩ := nz v hv; ⟨n, ns, up x⟩) (fun v hv => ?_) fun o e => ?_
    · obtain ⟨n, ns, x⟩ := nz v hv
      rw [x.k]; exact (up x).k
    · have e' : some o = some (seqObj "list" its.toArray 0) := e.symm.trans ha'
      cases e'
      intro c
      exact absurd (Value.type.inj c) (by decide)
  · have hp : out.Perm its := by
      have := h2.perm
      cases b with
      | true => exact this.trans (List.reverse_perm _)
      | false => exact this
    have hk : out.map (kI s.heap) = isortL ts := by
      refine srtL_unique ((hp.map _).trans ?_) ?_ (isortL_srt ts)
      · rw [t2]; exact (isortL_perm ts).symm
      · exact List.pairwise_map.mpr h1
    have mem : ∀ v ∈ out, (∃ a, v = Value.ref a) ∧ Dat G (backV v) (tupI (kI s.heap v)) := fun v hv => ⟨(t3 v (hp.mem_iff.mp hv)).1, (t3 v (hp.mem_iff.mp hv)).2.1⟩
    have len : out.length = its.length := hp.length_eq
    have e0 : (if b = true then out.toArray.reverse else out.toArray) = (if b = true then out.reverse else out).toArray := by
      cases b <;> simp
    obtain ⟨ep, he'⟩ := PyProof.Rows.sortedAll_at s.heap its (if b = true then out.toArray.reverse else out.toArray)
    have ms : ∀ v ∈ (if b = true then out.reverse else out), (∃ a, v = Value.ref a) ∧ Dat G (backV v) (tupI (kI s.heap v)) := fun v hv => mem v (by
      cases b with
      | true => exact List.mem_reverse.mp hv
      | false => exact hv)
    have lz : ((if b = true then out.reverse else out).map backV).length ≤ sizeLine := by
      rw [List.length_map]
      have : (if b = true then out.reverse else out).length = out.length := by cases b <;> simp
      rw [this, len, ← rv.length]
      exact hz
    have dl := datBack (k := kI s.heap) (us := if b = true then out.reverse else out) fun v hv => (ms v hv).2
    refine ⟨.ref _, upd H (s.heap.objs.size + 1) (.lst ((if b = true then out.reverse else out).map backV)), I.laid (t' := s.toks) (fun _ _ => PyProof.Rows.sortedAll_old) (Nat.le_succ _)
      ⟨lz, _, ep, vals_back fun v hv => (ms v hv).1, by rw [← e0]; exact he'⟩, rfl, q _ _ ?_ (I.hok.fresh (Nat.le_succ _))⟩
    cases b with
    | true => simpa [List.map_reverse, hk] using dl
    | false => simpa [hk] using dl
end
section
variable {X : Cx} {n m : Nat} {e : Expr} {f : EvE} {p pos kp cp : Pos} {j : Nat}
/-- sorted(x, reverse=True), rows -/
theorem sf_sortTR (hg : Gl X "sorted") (hm : X.mg "sorted" = none) (h : SE X 1 e f) (hb : backTo pos (starEach [e] X.env) = (false, eval e X.env) :: backTo pos (starEach [] X.env) := by rfl) (hs : starEach [e] X.env = (false, eval e X.env) :: starEach [] X.env := by rfl) (hpl : (backTo pos (starEach [e] X.env)).any (·.1) = false := by rfl) :
    SF X 1 (.Call (.Name "sorted" p) [e] [⟨some "reverse", .Constant (.bool true) j cp, kp⟩] pos) (un sortTR f) :=
  ⟨peMono (pe_callBK (cr_sortT (b := true)) hg hm PyProof.Rows.boot_sorted (pa_cons h.pe pa_nil hs) (pk_cons pe_bl pk_nil) (by decide) (by decide) hb hpl rfl rfl rfl) fun σ H Q ⟨g, G, ss, s, d, s', R, ef, q⟩ => by
    obtain ⟨dx, s1, e1, f1⟩ := bnd_inv ef
    obtain ⟨e2, e3⟩ := lft_inv f1
    subst e3
    refine ⟨g, G, ss, s, dx, _, R, e1, fun v G1 H1 R1 A1 w1 => ?_⟩
    unfold sortTR at e2
    split at e2
    case h_2 => cases e2
    rename_i ds
    cases et : asTups ds with
    | none => rw [et] at e2; cases e2
    | some ts =>
      rw [et] at e2
      cases e2
      obtain ⟨eds, hne⟩ := asTups_is et
      obtain ⟨a, vs, rfl, ha, fa⟩ := View.list R1.gh w1
      have l := fa.dat
      rw [eds] at l
      exact ⟨G1, a, vs, ts, fun x o h => (msk_some (R1.gh x o h)).2, rfl, rfl, (msk_some ha).2, l, hne, fun ys p ly hp => newL_fin R1 (by simpa using ly) (fun v G' H' F R' A' w fr => q v G' H' F R' (A1.trans R1 A' ⟨_, R'⟩) w (fr.back A1 R1 R.e.src.there)) p hp⟩⟩
/-- sorted(x), whole numbers in a list -/
theorem sf_sortI (hg : Gl X "sorted") (hm : X.mg "sorted" = none) (h : SE X m e f) (hs : starEach [e] X.env = (false, eval e X.env) :: starEach [] X.env := by rfl) : SF X 1 (.Call (.Name "sorted" p) [e] [] pos) (un sortI' f) :=
  ⟨peMono (pe_callB cr_sortedI hg hm PyProof.Rows.boot_sorted (pa_cons h.pe pa_nil hs) (by decide) (by decide) hs rfl) fun σ H Q ⟨g, G, ss, s, d, s', R, ef, q⟩ => by
    obtain ⟨dx, s1, e1, f1⟩ := bnd_inv ef
    obtain ⟨e2, e3⟩ := lft_inv f1
    subst e3
    refine ⟨g, G, ss, s, dx, _, R, e1, fun v G1 H1 R1 A1 w1 => ?_⟩
    unfold sortI' at e2
    split at e2
    case h_2 => cases e2
    rename_i ds
    cases et : asInts ds with
    | none => rw [et] at e2; cases e2
    | some ns =>
      rw [et] at e2
      cases e2
      obtain ⟨a, vs, rfl, ha, l, _⟩ := sq_list (K := X.K) (w1.now R1)
      rw [asInts_eq et] at l
      rw [l.of_ints] at ha
      refine ⟨a, ns, rfl, ha, fun ns' p hp hs hn => ?_⟩
      rw [isort_eq hp hs] 
      exact newL_fin R1 (DatL.ints _) (fun v G' H' F R' A' w fr => q v G' H' F R' (A1.trans R1 A' ⟨_, R'⟩) w (fr.back A1 R1 R.e.src.there)) p hn⟩
/-- x[::-1] of a list -/
theorem sf_revL {k : Nat} {p1 p2 p3 : Pos} (h : SE X 1 e f) : SF X 1 (.Subscript e (.Slice none none (some (.UnaryOp .USub (.Constant (.int 1) k p1) p2)) p3) pos) (un revLD f) :=
  ⟨peMono (pe_revL h.pe) fun σ H Q ⟨g, G, ss, s, d, s', R, ef, q⟩ => by
    obtain ⟨dx, s1, e1, f1⟩ := bnd_inv ef
    obtain ⟨e2, e3⟩ := lft_inv f1
    subst e3
    refine ⟨g, G, ss, s, dx, _, R, e1, fun v G1 H1 R1 A1 w1 => ?_⟩
    unfold revLD at e2
    split at e2
    case h_2 => cases e2
    cases e2
    obtain ⟨a, vs, rfl, ha, fa⟩ := View.list R1.gh w1
    exact ⟨a, vs, rfl, .inl (.inl (msk_some ha).2), fun p hn => newL_fin R1 fa.dat.rev (fun v G' H' F R' A' w fr => q v G' H' F R' (A1.trans R1 A' ⟨_, R'⟩) w (fr.back A1 R1 R.e.src.there)) p hn⟩⟩
end
end Ev
end

section
set_option linter.all false
set_option Elab.async false
set_option maxRecDepth 100000
/-! A tuple turned: x[::-1]. -/
namespace Ev
open PySem PyProof.Rows L2
section
variable {prog : Program} {w : World} {A : Around} {E : Value → Shared → Prop} {s : Shared}
theorem adjust_back (n : Nat) : Builtin.Slice.sliceAdjust none none (-1) (n : Int) = ((n : Int) - 1, -1) := by
  unfold Builtin.Slice.sliceAdjust
  simp
theorem places_back (n : Nat) : Builtin.Slice.slicePlaces ((n : Int) - 1) (-1) (-1) = n := by
  unfold Builtin.Slice.slicePlaces
  have h1 : ¬ (-1 : Int) > 0 := by omega
  simp only [h1, if_false]
  have e : (- -1 : Int) = 1 := by decide
  rw [e, Int.ediv_one]
  split <;> omega
theorem slice_back {sl : Addr} {vs : Value} {n : Nat} {Q : Int × Int × Nat → Shared → Prop} (hs : s.heap.IsSliceOf sl .none .none vs) (ps : IsPart vs (some (-1)))
    (h : Q ((n : Int) - 1, -1, n) s) : wpAny (model prog w) A (Builtin.Slice.sliceApplied (.ref sl) (pure (n : Int))) Q E s := by
  obtain ⟨os, hos, hcs, hds⟩ := id hs
  unfold Builtin.Slice.sliceApplied Builtin.Slice.sliceFields
  refine wpAny_bind (wpAny_bind (wpAny_field hos hds (x := .none) rfl (wpAny_bind (wpAny_field hos hds (x := .none) rfl (wpAny_bind (wpAny_field hos hds (x := vs) rfl (wpAny_pure ?_)))))))
  refine wpAny_bind (HT.slicePart_ ps ?_)
  show wpAny _ _ (if ((-1 : Int) == 0) = true then _ else _) _ _ s
  rw [if_neg (by decide)]
  refine wpAny_bind (HT.slicePart_ .none (wpAny_bind (HT.slicePart_ .none (wpAny_bind (wpAny_pure ?_)))))
  show wpAny _ _ (match Builtin.Slice.sliceAdjust none none (-1) (n : Int) with | (lo, hi) => pure (lo, (-1 : Int), Builtin.Slice.slicePlaces lo hi (-1))) _ _ s
  rw [adjust_back]
  show wpAny _ _ (pure ((n : Int) - 1, (-1 : Int), Builtin.Slice.slicePlaces ((n : Int) - 1) (-1) (-1))) _ _ s
  rw [places_back]
  exact wpAny_pure h
theorem pick_back (xs : Array Value) : ((List.range xs.size).filterMap fun (m : Nat) => xs[((xs.size : Int) - 1 + (m : Int) * -1).toNat]?).toArray = xs.toList.reverse.toArray := by
  have e : ((List.range xs.size).filterMap fun (m : Nat) => xs[((xs.size : Int) - 1 + (m : Int) * -1).toNat]?) = ((List.range xs.size).map fun k => xs.size - 1 - k).filterMap (xs[·]?) := by
    rw [List.filterMap_map]
    have gen : ∀ l : List Nat, (∀ m ∈ l, m < xs.size) → (l.filterMap fun (m : Nat) => xs[((xs.size : Int) - 1 + (m : Int) * -1).toNat]?) = l.filterMap ((xs[·]?) ∘ fun k => xs.size - 1 - k) := by
      intro l
      induction l with
      | nil => intro _; rfl
      | cons m l ih =>
        intro hl
        have hm := hl m List.mem_cons_self
        have e2 : ((xs.size : Int) - 1 + (m : Int) * -1).toNat = xs.size - 1 - m := by omega
        rw [List.filterMap_cons, List.filterMap_cons, ih fun k hk => hl k (List.mem_cons_of_mem _ hk), e2]
        rfl
    exact gen _ fun m hm => List.mem_range.mp hm
  rw [e, PySem.W.krv_range, List.filterMap_reverse, PySem.W.krv_all]
theorem getItem_tuple_back {t sl : Addr} {items : Array Value} {vs : Value} {Q : Value → Shared → Prop} (ht : IsTup s.heap t items) (hs : s.heap.IsSliceOf sl .none .none vs) (ps : IsPart vs (some (-1)))
    (h : Q (.ref s.heap.objs.size) { s with heap := s.heap.push { cls := .type "tuple", data := .seq items.toList.reverse.toArray } }) (hsz : items.size ≤ sizeLine) : wpAny (model prog w) A (getItem (.ref t) (.ref sl)) Q E s := by
  have hz : sizeOk (.seq items.toList.reverse.toArray) := by
    show items.toList.reverse.toArray.size ≤ sizeLine
    simpa using hsz
  obtain ⟨os, hos, hcs, hds⟩ := id hs
  have hTs : s.TypeIs (.ref sl) "slice" := ⟨os, hos, hcs⟩
  unfold getItem
  try with_reducible refine wpAny_holding ?_
  first | refine wpAny_bind (wpAny_pure ?_) | skip
  refine wpAny_bind (wpAny_sequenceKey ht.typeIs (by decide) ?_)
  refine wpAny_bind (wpAny_callSpecial?_slot (name := Str.ofString "__getitem__") ht.typeIs PyProof.Rows.slot_tuple_getitem
    (wpAny_call_entry PyProof.Rows.slot_tuple_getitem ht.typeIs entry_tuple_getitem ?_ (args_tuple_getitem _ _)))
  show wpAny _ _ (Builtin.Tuple.tupleItemsOf (.ref t) >>= _) _ _ s
  refine wpAny_bind (tupleItemsOf_ ht ?_)
  refine wpAny_bind (wpAny_typeOf hTs ?_)
  rw [if_pos (by decide)]
  refine wpAny_bind (slice_back hs ps ?_)
  show wpAny _ _ (if (((items.size : Int) - 1) == 0 && (-1 : Int) == 1 && items.size == items.size) = true then _ else _) _ _ s
  rw [if_neg (by simp), pick_back]
  first
    | exact wpAny_bind (m := Builtin.Tuple.tupleExact _) (wpAny_newObj_type (wpAny_pure ⟨_, rfl, wpAny_pure h⟩) hz)
    | exact wpAny_bind (m := Builtin.Tuple.tupleExact _) (wpAny_newObj_type (wpAny_bind (wpAny_pure (wpAny_pure ⟨_, rfl, wpAny_pure h⟩))) hz)
    | exact wpAny_bind (wpAny_bind (m := Builtin.Tuple.tupleExact _) (wpAny_newObj_type (wpAny_pure (wpAny_pure ⟨_, rfl, wpAny_pure h⟩)) hz))
    | exact wpAny_bind (wpAny_bind (m := Builtin.Tuple.tupleExact _) (wpAny_newObj_type (wpAny_pure ⟨_, rfl, wpAny_pure h⟩) hz))
end
section
variable {X : Cx} {n m : Nat} {e : Expr} {f : EvE} {pos : Pos}
theorem pe_revT {te : TE} {k : Nat} {p1 p2 p3 : Pos} (he : PE X e te) : PE X (.Subscript e (.Slice none none (some (.UnaryOp .USub (.Constant (.int 1) k p1) p2)) p3) pos) (fun σ H Q => te σ H fun x H1 => ∃ a xs, x = .ref a ∧ SqT X.K H1 a xs ∧ NewT H1 xs.reverse Q) := by
  refine ⟨fun pins s σ H Q I h => ?_⟩
  refine Subscript_ (thn (he.run pins s σ H _ I h) fun v s1 ⟨x, H1, I1, r1, q1⟩ => ?_)
  obtain ⟨a, xs, ex, hx, q⟩ := q1
  subst ex
  cases r1
  have hst : PO X (some (.UnaryOp .USub (.Constant (.int 1) k p1) p2)) (tPart (tUn (rU fun i => .int (-i)) (tC (.int 1)))) := po_some (pe_un un_neg pe_int)
  refine wpAny_Slice (thn (po_none.run pins s1 σ H1 (fun o H2 => o = none ∧ H2 = H1) I1 ⟨rfl, rfl⟩) fun vl s2 ⟨l, H2, I2, pl, el, e2⟩ => ?_)
  subst el e2
  refine thn (po_none.run pins s2 σ H2 (fun o H3 => o = none ∧ H3 = H2) I2 ⟨rfl, rfl⟩) fun vu s3 ⟨u, H3, I3, pu, eu, e3⟩ => ?_
  subst eu e3
  refine thn (hst.run pins s3 σ H3 (fun o H4 => o = some (-1) ∧ H4 = H3) I3 ⟨1, rfl, -1, rfl, rfl, rfl⟩) fun vs s4 ⟨o, H4, I4, ps, eo, e4⟩ => ?_
  subst eo e4
  have I5 : Inv X pins σ H4 { s4 with heap := s4.heap.push { cls := .type "slice", data := .fields #[vl, vu, vs] } } := I4.kept (t' := s4.toks) fun b ob q => Heap.get?_push_of_some _ q
  obtain ⟨its, r, ht, hz⟩ := I5.tuple hx
  have hlen := r.length
  cases pl
  cases pu
  show wpAny (model X.prog X.w) X.A (subscriptTail e (.Slice none none (some (.UnaryOp .USub (.Constant (.int 1) k p1) p2)) p3) (.ref a) (.ref s4.heap.objs.size)) (EP X pins σ Q) X.xe { s4 with heap := s4.heap.push { cls := .type "slice", data := .fields #[.none, .none, vs] } }
  refine tail_any (ops := [.ref a, .ref s4.heap.objs.size]) ht.typeIs (PyProof.Rows.slot_tuple_getitem.lookup) ?_ (by with_unfolding_all rfl)
  refine getItem_tuple_back ht (Heap.IsSliceOf.new _ .none .none vs) ps ?_ (by rw [List.size_toArray]; omega)
  exact ⟨.ref _, _, invTup I5 (xs := xs.reverse) (us := its.reverse) r.reverse (by rw [List.length_reverse]; exact hz) s4.toks, rfl, q _ (tupO its.reverse) (I5.hok.fresh (Nat.le_refl _)) rfl⟩
theorem se_revT {k : Nat} {p1 p2 p3 : Pos} (h : SE X m e f) : SE X n (.Subscript e (.Slice none none (some (.UnaryOp .USub (.Constant (.int 1) k p1) p2)) p3) pos) (un revTD f) :=
  ⟨peMono (pe_revT h.pe) fun σ H Q ⟨g, G, ss, s, d, s', R, ef, q⟩ => by
    obtain ⟨dx, s1, e1, f1⟩ := bnd_inv ef
    obtain ⟨e2, e3⟩ := lft_inv f1
    subst e3
    refine ⟨g, G, ss, s, dx, _, R, e1, fun v G1 H1 R1 A1 w1 => ?_⟩
    unfold revTD at e2
    split at e2
    case h_2 => cases e2
    cases e2
    have w := View.tuple w1
    cases id w with
    | tup hh hn l => exact ⟨_, _, rfl, .inl (.inr ⟨_, (msk_some (R1.gh _ _ hh)).2⟩), newT_fin R1 l.rev fun v G' H' R' A' w' => q v G' H' R' (A1.trans R1 A' ⟨_, R'⟩) (.of w' n)⟩⟩
end
end Ev
end

section
set_option linter.all false
set_option Elab.async false
set_option maxRecDepth 100000
/-! The source of drawn numbers: its fields are read and written. -/
namespace Ev
open PySem PyProof.Rows L2

inductive Fld where
  | left | mixed | turn
def Fld.key : Fld → Str
  | .left => kLeft | .mixed => kMixed | .turn => kTurn
def Fld.get : Fld → Src → Int
  | .left, s => s.left | .mixed, s => s.mixed | .turn, s => s.turn
def Fld.put : Fld → Src → Int → Src
  | .left, s, v => { s with left := v } | .mixed, s, v => { s with mixed := v } | .turn, s, v => { s with turn := v }
theorem kcl : ¬ kCells = kLeft := by decide +kernel
theorem kcm : ¬ kCells = kMixed := by decide +kernel
theorem kct : ¬ kCells = kTurn := by decide +kernel
theorem klm : ¬ kLeft = kMixed := by decide +kernel
theorem klt : ¬ kLeft = kTurn := by decide +kernel
theorem kmt : ¬ kMixed = kTurn := by decide +kernel
theorem kinr {a b : Str} (h : ¬ a = b) : ¬ (Sum.inr a : Key) = Sum.inr b := fun z => h (Sum.inr.inj z)
theorem src_val {c : Addr} {s : Src} (f : Fld) : valV (srcD c s) (.inr f.key) = some (.int (f.get s)) := by
  unfold srcD
  cases f with
  | left =>
    show valV _ (Sum.inr kLeft : Key) = _
    rw [valV_neg (kinr kcl), valV_pos rfl]; rfl
  | mixed =>
    show valV _ (Sum.inr kMixed : Key) = _
    rw [valV_neg (kinr kcm), valV_neg (kinr klm), valV_pos rfl]; rfl
  | turn =>
    show valV _ (Sum.inr kTurn : Key) = _
    rw [valV_neg (kinr kct), valV_neg (kinr klt), valV_neg (kinr kmt), valV_pos rfl]; rfl
theorem src_cells {c : Addr} {s : Src} : valV (srcD c s) (.inr kCells) = some (.ref c) := valV_pos rfl
theorem src_put {c : Addr} {s : Src} (f : Fld) (v : Int) : putK (srcD c s) (.inr f.key) (.int v) = srcD c (f.put s v) := by
  have h1 := kcl; have h2 := kcm; have h3 := kct; have h4 := klm; have h5 := klt; have h6 := kmt
  have h4' := Ne.symm klm; have h5' := Ne.symm klt; have h6' := Ne.symm kmt
  cases f with
  | left =>
    show putK _ (Sum.inr kLeft : Key) _ = _
    simp [putK, srcD, Fld.put, h1, h4', h5']
  | mixed =>
    show putK _ (Sum.inr kMixed : Key) _ = _
    simp [putK, srcD, Fld.put, h2, h4, h6']
  | turn =>
    show putK _ (Sum.inr kTurn : Key) _ = _
    simp [putK, srcD, Fld.put, h3, h5, h6]

/-! ### denotations -/
def srcG (f : Fld) (i : Nat) : EvE := fun ss => match ss[i]? with
  | some .src => fun s => some (.int (f.get s), s)
  | _ => stop
def srcLen (i : Nat) : EvE := fun ss => match ss[i]? with
  | some .src => fun s => some (.int s.cells.length, s)
  | _ => stop
def srcPut (f : Fld) (i : Nat) (e : EvE) : EvS := fun ss => bnd (e ss) fun d => match d, ss[i]? with
  | .int v, some .src => fun s => some (.nx ss, f.put s v)
  | _, _ => stop
def srcPop (f : Fld) (i : Nat) : EvS := fun ss => match ss[i]? with
  | some .src => fun s => match s.cells.getLast? with
    | some v => some (.nx ss, f.put { s with cells := s.cells.dropLast } v)
    | none => none
  | _ => stop

theorem Rel.srcAt {g : Gh} {G H : Hp} {σ : L2.St} {ss : Slots} {s : Src} {i : Nat} (r : Rel g G H σ ss s) (e : ss[i]? = some .src) :
    ∃ p c, σ[i]? = some (some (.ref p)) ∧ g.sa = [p, c] ∧ p ≠ c ∧ H p = some (.dK (srcD c s)) ∧ H c = some (.lst (s.cells.map V.int)) := by
  obtain ⟨F, f⟩ := r.f
  have ok := f.ok i
  rw [e] at ok
  obtain ⟨p, c, h1, h2, _⟩ := ok
  rcases r.e.src with z | ⟨p', c', z, ne, a, b⟩
  · rw [h2] at z; cases z
  · rw [h2] at z; cases z
    exact ⟨p, c, h1, h2, ne, a, b⟩
/-- the source has changed, nothing else -/
theorem RelE.srcSet {g : Gh} {G H H' : Hp} {s s' : Src} (r : RelE g G H s) (k : ∀ a, a ∉ g.sa → H' a = H a) (o : SrcOk g.sa H' s') : RelE g G H' s' ∧ Adv g.sa G H G H' := by
  have e : msk g.sa H' = msk g.sa H := by
    funext a
    unfold msk
    by_cases h : a ∈ g.sa
    · rw [if_pos h, if_pos h]
    · rw [if_neg h, if_neg h, k a h]
  refine ⟨⟨by rw [e]; exact r.gh, by rw [e]; exact r.bh, r.g0, r.new, fun a ha => ?_, o⟩, fun _ _ h => h, by rw [e]; exact fun _ _ h => h, fun _ h => .inl h⟩
  by_cases h : a ∈ g.sa
  · exact o.there a h
  · rw [k a h]; exact r.old a ha
section
variable {X : Cx} {n i k k2 : Nat} {e ax : Expr} {fe : EvE} {f : Fld} {pos p p1 p2 pos' apos cpos ep : Pos} {x : Str}
theorem noSl_str {y : Str} {k : Nat} {q : Pos} : NoSl (.Constant (.str y) k q) := fun _ _ => rfl
theorem se_srcG (hu : X.A.units + 64 < cLine) (ho : PE X ax (tVar i)) (hk : f.key = x) : SE X n (.Subscript ax (.Constant (.str x) k p) pos) (srcG f i) :=
  ⟨peMono (pe_dget (by omega) ho pe_str noSl_str) fun σ H Q ⟨g, G, ss, s, d, s', R, ef, q⟩ => by
    subst hk
    unfold srcG at ef
    cases e1 : ss[i]? with
    | none => rw [e1] at ef; cases ef
    | some sl =>
      rw [e1] at ef
      cases sl <;> try (cases ef; done)
      cases ef
      obtain ⟨p, c, h1, h2, ne, h3, h4⟩ := R.srcAt e1
      exact ⟨.ref p, h1, p, .int (f.get s), rfl, by rw [← src_val (c := c) (s := s) f]; exact DGet.k (k := Sum.inr f.key) h3, q _ G H R.e (Adv.refl _ _ _) (.of (.int _) n)⟩⟩
theorem se_srcLen (hu : X.A.units + 64 < cLine) (hg : Gl X "len") (hm : X.mg "len" = none) (ho : PE X ax (tVar i)) (hk : kCells = x)
    (hs : starEach [.Subscript ax (.Constant (.str x) k p) pos] X.env = (false, eval (.Subscript ax (.Constant (.str x) k p) pos) X.env) :: starEach [] X.env := by rfl) :
    SE X n (.Call (.Name "len" p1) [.Subscript ax (.Constant (.str x) k p) pos] [] p2) (srcLen i) :=
  ⟨peMono (pe_callB call_len_seq hg hm PySem.boot_len (pa_cons (pe_dget (by omega) ho pe_str noSl_str) pa_nil hs) (by decide) (by decide) hs rfl) fun σ H Q ⟨g, G, ss, s, d, s', R, ef, q⟩ => by
    subst hk
    unfold srcLen at ef
    cases e1 : ss[i]? with
    | none => rw [e1] at ef; cases ef
    | some sl =>
      rw [e1] at ef
      cases sl <;> try (cases ef; done)
      cases ef
      obtain ⟨p, c, h1, h2, ne, h3, h4⟩ := R.srcAt e1
      refine ⟨.ref p, h1, p, .ref c, rfl, by rw [← src_cells (c := c) (s := s)]; exact DGet.k (k := Sum.inr kCells) h3, c, _, rfl, .inl (.inl (.inl h4)), ?_⟩
      rw [List.length_map]
      exact q _ G H R.e (Adv.refl _ _ _) (.of (.int _) n)⟩
theorem Rel.srcPutAt {g : Gh} {G H : Hp} {σ : L2.St} {ss : Slots} {s s2 : Src} {p c : Addr} {f : Fld} {v : Int} (r : Rel g G H σ ss s) (h2 : g.sa = [p, c]) (ne : p ≠ c) (h4 : H c = some (.lst (s2.cells.map V.int))) :
    Rel g G (upd H p (.dK (srcD c (f.put s2 v)))) σ ss (f.put s2 v) := by
  have hc : (f.put s2 v).cells = s2.cells := by cases f <;> rfl
  obtain ⟨R', A'⟩ := r.e.srcSet (H' := upd H p (.dK (srcD c (f.put s2 v)))) (s' := f.put s2 v) (fun a ha => upd_ne fun z => ha (by rw [h2, z]; simp)) (.inr ⟨p, c, h2, ne, upd_same, by rw [upd_ne ne.symm, hc]; exact h4⟩)
  exact r.ext A' R'
theorem ss_srcPut (hu : X.A.units + 64 < cLine) (ho : PE X ax (tVar i)) (hk : f.key = x) (he : SE X 0 e fe) (hs : swapsWith e (some (.Subscript ax (.Constant (.str x) k p) pos')) pos.line X.env = pure false := by rfl) :
    SS X (.Assign [.Subscript ax (.Constant (.str x) k p) pos'] e pos) (srcPut f i fe) :=
  ⟨psMono (ps_dput (by omega) ho pe_str he.pe hs) fun D σ H ⟨g, G, ss, s, o, s', wf, R, ef, q⟩ => by
    subst hk
    obtain ⟨d, s1, e1, f1⟩ := bnd_inv ef
    cases d <;> try (cases f1; done)
    rename_i v
    cases e2 : ss[i]? with
    | none => rw [e2] at f1; cases f1
    | some sl =>
      rw [e2] at f1
      cases sl <;> try (cases f1; done)
      cases f1
      refine ⟨g, G, ss, s, .int v, s1, R, e1, fun x G1 H1 R1 A1 w1 => ?_⟩
      have R2 := R.ext A1 R1
      obtain ⟨p, c, h1, h2, ne, h3, h4⟩ := R2.srcAt e2
      have w : x = .int v := dInt R1.gh (show View 0 G1 (msk g.sa H1) x (.int v) from w1)
      rw [w]
      refine ⟨.ref p, h1, p, _, rfl, DPut.k (k := Sum.inr f.key) h3 (by show 4 < sizeLine; decide), ?_⟩
      rw [src_put]
      exact q σ G1 _ (R2.srcPutAt h2 ne h4) A1.g⟩
theorem ss_srcPop (hu : X.A.units + 64 < cLine) (ho : PE X ax (tVar i)) (hk : f.key = x) {y : Str} {q1 q2 q3 : Pos} (hy : kCells = y) {ay : Expr} (hoy : PE X ay (tVar i))
    (hbase : attributeBase (.Subscript ay (.Constant (.str y) k2 q1) q2) "pop" X.env (eval (.Subscript ay (.Constant (.str y) k2 q1) q2) X.env) = eval (.Subscript ay (.Constant (.str y) k2 q1) q2) X.env := by rfl)
    (hline : (apos.endLine == cpos.line) = true := by rfl)
    (hs : swapsWith (.Call (.Attribute (.Subscript ay (.Constant (.str y) k2 q1) q2) "pop" apos) [] [] cpos) (some (.Subscript ax (.Constant (.str x) k p) pos')) pos.line X.env = pure false := by rfl) :
    SS X (.Assign [.Subscript ax (.Constant (.str x) k p) pos'] (.Call (.Attribute (.Subscript ay (.Constant (.str y) k2 q1) q2) "pop" apos) [] [] cpos) pos) (srcPop f i) :=
  ⟨psMono (ps_dput (by omega) ho pe_str (pe_bm0 PySem.F.plainAttrs_list PySem.F.slot_list_pop PySem.F.type_list_pop mt_pop (pe_dget (by omega) hoy pe_str noSl_str) hbase hline) hs) fun D σ H ⟨g, G, ss, s, o, s', wf, R, ef, q⟩ => by
    subst hk
    subst hy
    unfold srcPop at ef
    cases e2 : ss[i]? with
    | none => rw [e2] at ef; cases ef
    | some sl =>
      rw [e2] at ef
      cases sl <;> try (cases ef; done)
      dsimp only at ef
      cases e3 : s.cells.getLast? with
      | none => rw [e3] at ef; cases ef
      | some v =>
        rw [e3] at ef
        cases ef
        obtain ⟨p, c, h1, h2, ne, h3, h4⟩ := R.srcAt e2
        refine ⟨.ref p, h1, p, .ref c, rfl, by rw [← src_cells (c := c) (s := s)]; exact DGet.k (k := Sum.inr kCells) h3, tyL h4, c, _, .int v, rfl, rfl, h4, ?_, ?_⟩
        · rw [List.length_map, List.getElem?_map, ← List.getLast?_eq_getElem?, e3]; rfl
        · have hcd : (s.cells.map V.int).dropLast = (s.cells.dropLast).map V.int := List.map_dropLast.symm
          rw [hcd]
          obtain ⟨R1, A1⟩ := R.e.srcSet (H' := upd H c (.lst (s.cells.dropLast.map V.int))) (s' := { s with cells := s.cells.dropLast }) (fun a ha => upd_ne fun z => ha (by rw [h2, z]; simp)) (.inr ⟨p, c, h2, ne, by rw [upd_ne ne]; exact h3, upd_same⟩)
          have R2 := R.ext A1 R1
          refine ⟨.ref p, h1, p, _, rfl, DPut.k (k := Sum.inr f.key) (kvs := srcD c s) (by rw [upd_ne ne]; exact h3) (by show 4 < sizeLine; decide), ?_⟩
          rw [src_put]
          have e5 : srcD c (f.put s v) = srcD c (f.put { s with cells := s.cells.dropLast } v) := by cases f <;> rfl
          rw [e5]
          exact q σ G _ (R2.srcPutAt h2 ne upd_same) Same.rfl⟩
end
end Ev
end

section
set_option linter.all false
set_option Elab.async false
set_option maxRecDepth 100000
/-! The law's source is made from the script; a list is mixed. -/
namespace Ev
open PySem PyProof.Rows L2

/-! ### the source -/
def mix (m cell : Int) : Int := (m * 69069 + cell * 31 + 5) % 2147483629
def iabs (i : Int) : Int := if i < 0 then -i else i
def src0 (ns : List Int) : Src := ⟨(ns.map iabs).reverse, 1, ns.foldl mix 11, 0⟩
def spSrc (K : PySem.W.Frag) : Sp := fun vs H Q _ => ∃ a ns, vs = [V.ref a] ∧ SqL K H a (ns.map V.int) ∧ ns.length ≤ 64 ∧
  ∀ p c H', Same H H' → p ≠ c → H p = none → H c = none → H' p = some (.dK (srcD c (src0 ns))) → H' c = some (.lst ((src0 ns).cells.map V.int)) → Q (.ref p) H'
/-- nothing is known but that it stands -/
def g0 (H : Hp) : Gh := ⟨fun _ => none, fun _ => none, fun a => H a ≠ none, []⟩
def s00 : Src := ⟨[], 0, 0, 0⟩
theorem rel0 {H : Hp} {σ : L2.St} {ss : Slots} (hl : σ.length = ss.length) (h : ∀ (i : Nat) (d : Slot), ss[i]? = some d → d = Slot.dead ∨ ∃ n : Int, d = Slot.vw 0 (.int n) ∧ σ[i]? = some (some (V.int n))) : Rel (g0 H) (fun _ => none) H σ ss s00 := by
  refine ⟨⟨fun a o h => (nomatch h), fun a o h => (nomatch h), fun a o h => (nomatch h), fun a h => absurd rfl h, fun a h => h, .inl rfl⟩, hl, fun _ => [], ⟨fun i => ?_, fun _ => List.nodup_nil, fun i p hp => absurd hp (by simp), fun i j p hp _ => absurd hp (by simp)⟩⟩
  cases e : ss[i]? with
  | none => rfl
  | some d =>
    rcases h i d e with rfl | ⟨n, rfl, e2⟩
    · rfl
    · exact ⟨.int n, e2, .int n, rfl⟩
theorem g0_wf {H : Hp} : (g0 H).Wf := fun a h => absurd rfl h
/-- an expression over whole numbers alone -/
theorem int_go {H : Hp} {σ : L2.St} {ss : Slots} {f : EvE} {n : Int} {Q : VK} (hl : σ.length = ss.length) (h : ∀ (i : Nat) (d : Slot), ss[i]? = some d → d = Slot.dead ∨ ∃ n : Int, d = Slot.vw 0 (.int n) ∧ σ[i]? = some (some (V.int n)))
    (hf : f ss s00 = some (.int n, s00)) (q : ∀ H', Same H H' → Q (.int n) H') : tE 0 f σ H Q := by
  refine ⟨g0 H, fun _ => none, ss, s00, .int n, s00, rel0 hl h, hf, fun v G' H' r a w => ?_⟩
  have w' : Dat G' v (.int n) := w
  cases w'
  refine q H' fun b o e => a.at (by show b ∉ []; simp) e
theorem fold_snoc (l : List Int) (m : Int) (i : Nat) (x : Int) (h : l[i]? = some x) : (l.take (i + 1)).foldl mix m = mix ((l.take i).foldl mix m) x := by
  rw [List.take_add_one, h]
  simp
theorem ints_at {ns : List Int} {i : Nat} {x : V} (h : (ns.map V.int)[i]? = some x) : ∃ n, ns[i]? = some n ∧ x = .int n := by
  rw [List.getElem?_map] at h
  cases e : ns[i]? with
  | none => rw [e] at h; cases h
  | some n => rw [e] at h; cases h; exact ⟨n, rfl, rfl⟩
def tSrcBody (K : PySem.W.Frag) (fm fa : EvE) : TS := L2.tSeq (tAsg (tC (.int 11)) (gName 1)) (L2.tSeq (tFor (iList K (tVar 0)) (gName 2) (tAsg (tE 0 fm) (gName 1)))
  (tRet (tDisp [(tC (.str kCells), tRevL K (tLc (iList K (tVar 0)) (gName 2) tYes (tE 0 fa) [2])), (tC (.str kLeft), tC (.int 1)), (tC (.str kMixed), tVar 1), (tC (.str kTurn), tC (.int 0))])))
theorem src_read {K : PySem.W.Frag} {fm fa : EvE} {vs : List V} {H : Hp} {Q : VK} {E : XK} {D : Ends} (hm : ∀ m c : Int, fm [.dead, .vw 0 (.int m), .vw 0 (.int c)] s00 = some (.int (mix m c), s00)) (ha : ∀ c : Int, fa [.dead, .dead, .vw 0 (.int c)] s00 = some (.int (iabs c), s00))
    (h : spSrc K vs H Q E) (hD : D.rt = Q) : tSrcBody K fm fa D (L2.start ["script", "mixed", "cell"] vs) H := by
  obtain ⟨a, ns, rfl, hq, h64, q⟩ := h
  show tFor (iList K (tVar 0)) (gName 2) (tAsg (tE 0 fm) (gName 1)) _ [some (.ref a), some (.int 11), none] H
  have sq : ∀ {H' : Hp}, Same H H' → SqL K H' a (ns.map V.int) := fun k => L2.Same.seq k hq
  refine ⟨.ref a, rfl, a, rfl, ⟨_, hq⟩, for_it (J := Itl K a) (walk_list (xs := ns.map V.int)) (fun i σ H' => Same H H' ∧ ∃ v : Option V, σ = [some (.ref a), some (.int ((ns.take i).foldl mix 11)), v]) ⟨Same.rfl, none, rfl⟩ (fun i σ H' _ h => sq h.1) ?_ ?_⟩
  · rintro i x σ H1 H2 hi ⟨k, v, rfl⟩ ⟨rfl, hx⟩
    obtain ⟨n, hn, rfl⟩ := ints_at hx
    refine int_go (ss := [.dead, .vw 0 (.int ((ns.take i).foldl mix 11)), .vw 0 (.int n)]) rfl (fun j d e => ?_) (hm _ _) fun H' k' => ⟨Same.trans k k', some (.int n), ?_⟩
    · match j, e with
      | 0, e => cases e; exact .inl rfl
      | 1, e => cases e; exact .inr ⟨_, rfl, rfl⟩
      | 2, e => cases e; exact .inr ⟨_, rfl, rfl⟩
      | _ + 3, e => cases e
    · rw [fold_snoc ns 11 i n hn]; rfl
  · rintro σ H1 ⟨k1, v, rfl⟩
    rw [List.length_map, List.take_length]
    intro p hp
    have k2 : Same H1 (upd H1 p (.dK [])) := fun b o e => by rw [upd_ne (fun z => by rw [z, hp] at e; cases e)]; exact e
    refine ⟨.ref a, rfl, a, rfl, ⟨_, sq (Same.trans k1 k2)⟩, fun L hL => ?_⟩
    have hLp : L ≠ p := fun z => by rw [z, upd_same] at hL; cases hL
    have k3 : Same (upd H1 p (.dK [])) (upd (upd H1 p (.dK [])) L (.lst [])) := fun b o e => by rw [upd_ne (fun z => by rw [z, hL] at e; cases e)]; exact e
    refine lc_it (J := Itl K a) (walk_list (xs := ns.map V.int)) (fun i H' => Same (upd H1 p (.dK [])) H' ∧ H' L = some (.lst (((ns.take i).map iabs).map V.int))) ⟨k3, upd_same⟩ (fun i H' _ h => sq (Same.trans (Same.trans k1 k2) h.1)) ?_ ?_
    · rintro i x H2 H3 hi ⟨k4, hl⟩ ⟨rfl, hx⟩
      obtain ⟨n, hn, rfl⟩ := ints_at hx
      refine ⟨rfl, int_go (ss := [.dead, .dead, .vw 0 (.int n)]) rfl (fun j d e => ?_) (ha _) fun H' k' => ⟨_, k' _ _ hl, ?_, ?_, ?_⟩⟩
      · match j, e with
        | 0, e => cases e; exact .inl rfl
        | 1, e => cases e; exact .inl rfl
        | 2, e => cases e; exact .inr ⟨_, rfl, rfl⟩
        | _ + 3, e => cases e
      · rw [List.length_map, List.length_map, List.length_take]
        exact Nat.lt_of_le_of_lt (Nat.le_trans (Nat.min_le_right _ _) h64) (by decide)
      · intro b o e
        have := k' _ _ (k4 _ _ e)
        rw [upd_ne (fun z => by rw [z, hL] at e; cases e)]
        exact this
      · rw [upd_same, List.take_add_one, hn]
        simp
    · rintro H2 ⟨k4, hl⟩
      rw [List.length_map, List.take_length] at hl
      refine ⟨L, _, rfl, .inl (.inl hl), fun c hc => ?_⟩
      have hp2 : H2 p = some (.dK []) := k4 _ _ upd_same
      have hcp : c ≠ p := fun z => by rw [z, hp2] at hc; cases hc
      refine ⟨_, rfl, by rw [upd_ne hcp.symm]; exact hp2, [(.inr kCells, .ref c), (.inr kLeft, .int 1), (.inr kMixed, .int (ns.foldl mix 11)), (.inr kTurn, .int 0)], rfl, by show 4 ≤ 15; decide, ?_⟩
      have em : mergeK [] [(.inr kCells, V.ref c), (.inr kLeft, .int 1), (.inr kMixed, .int (ns.foldl mix 11)), (.inr kTurn, .int 0)] = srcD c (src0 ns) := by
        have h1 := kcl; have h2 := kcm; have h3 := kct; have h4 := klm; have h5 := klt; have h6 := kmt
        simp [mergeK, putK, srcD, src0, h1, h2, h3, h4, h5, h6]
      rw [em]
      have hc0 : H1 c = none := by
        cases e : H1 c with
        | none => rfl
        | some o =>
          have := k4 _ _ (k2 _ _ e)
          rw [hc] at this; cases this
      rw [hD]
      refine q p c _ (fun b o e => ?_) hcp.symm ?_ ?_ upd_same ?_
      · have e1 := k4 _ _ (k2 _ _ (k1 _ _ e))
        rw [upd_ne (fun z => by have := k1 _ _ e; rw [z, hp] at this; cases this), upd_ne (fun z => by rw [z, hc] at e1; cases e1)]
        exact e1
      · cases e : H p with
        | none => rfl
        | some o => have := k1 _ _ e; rw [hp] at this; cases this
      · cases e : H c with
        | none => rfl
        | some o => have := k1 _ _ e; rw [hc0] at this; cases this
      · rw [upd_ne hcp, upd_same]
        unfold src0
        rw [List.map_reverse]

/-! ### [xs.pop(e) for t in src] -/
def popsF (t : Tg) (own : List Nat) (i : Nat) (fp : EvE) : List D → Slots → M (List D × Slots)
  | [], ss => ret ([], ss)
  | x :: r, ss => match t x ss with
    | some ss1 => bnd (fp ss1) fun k => bnd (lft (ownL ss1 i)) fun xs => bnd (lft (oPop xs [k])) fun q => bnd (popsF t own i fp r (wipeS (setL ss1 i q.2) own)) fun w => ret (q.1 :: w.1, w.2)
    | none => stop
def retPops (own : List Nat) (fl : EvL) (t : Tg) (i : Nat) (fp : EvE) : EvS := fun ss => bnd (fl ss) fun ds => bnd (popsF t own i fp ds (wipeS ss own)) fun w => if w.1.length ≤ lim then ret (.rt (.list w.1)) else stop
theorem Rel.older {g : Gh} {G H : Hp} {σ : L2.St} {ss : Slots} {s : Src} {D : Addr} {o : HO} (r : Rel g G H σ ss s) (wf : g.Wf) (hD : H D = none) :
    Rel { g with Old := fun a => g.Old a ∨ a = D } G (upd H D o) σ ss s := by
  obtain ⟨L1, L2⟩ := r.e.laid (o := o) hD
  have r2 := r.ext L2 L1
  obtain ⟨F, f⟩ := r.f
  have gD := r.e.off hD
  refine ⟨⟨L1.gh, L1.bh, L1.g0, fun a h => ?_, fun a ha => ?_, L1.src⟩, r2.len, F, ⟨fun j => ?_, f.nd, fun j p hp => ?_, f.dis⟩⟩
  · rcases L1.new a h with z | z
    · exact .inl z
    · exact .inr fun w => w.elim z fun e => by rw [e] at h; exact h gD
  · rcases ha with h | h
    · exact L1.old a h
    · rw [h, upd_same]; exact fun z => by cases z
  · have := (f.ok j).keep (H' := upd H D o) (fun _ _ h => h) fun q hq => upd_ne fun z => (f.ok j).there q hq (by rw [z]; exact hD)
    cases e : ss[j]? with
    | none => rw [e] at this; exact this
    | some sl => rw [e] at this; cases sl <;> exact this
  · obtain ⟨h1, h2, h3⟩ := f.out j p hp
    exact ⟨h1, h2, fun w => w.elim h3 fun e => (f.ok j).there p hp (by rw [e]; exact hD)⟩
/-- a tracked list that is nobody's slot is written -/
theorem Rel.writeOld {g : Gh} {G H : Hp} {σ : L2.St} {ss : Slots} {s : Src} {D : Addr} {o : HO} (r : Rel g G H σ ss s) (hO : g.Old D) (h1 : G D = none) (h2 : g.B D = none) (h3 : D ∉ g.sa) : Rel g G (upd H D o) σ ss s := by
  obtain ⟨F, f⟩ := r.f
  exact ⟨r.e.write h1 h2 h3, r.len, F, ⟨fun j => (f.ok j).keep (fun _ _ h => h) fun q hq => upd_ne fun z => (f.out j q hq).2.2 (by rw [z]; exact hO), f.nd, f.out, f.dis⟩⟩
theorem pops_fin {bb : Bool} {K : PySem.W.Frag} {fl : EvL} {ix vs : List Nat} {t : Tg} {fp : EvE} {i : Nat} {σ : L2.St} {H : Hp} {D0 : Ends} (hix : ∀ j ∈ ix, j ∈ vs) (hi : i ∉ vs)
    (h : tS (retPops vs fl t i fp) D0 σ H) : tLc (tI bb false 0 fl) (tTG false (0 - 1) ix t) tYes (tBM K "list" rPopAt (tVar i) (tCons (tE 0 fp) tNil)) vs σ H D0.rt := by
  obtain ⟨g, G, ss, s, o, s', wf, R, ef, q⟩ := h
  obtain ⟨xs, s1, ex, ef⟩ := bnd_inv ef
  obtain ⟨w, s2, em, ef⟩ := bnd_inv ef
  split at ef
  case isFalse => cases ef
  rename_i hlen
  obtain ⟨e3, e4⟩ := ret_inv ef
  subst e4
  subst e3
  refine ⟨g, G, ss, s, xs, s1, R, ex, fun J G1 H1 R1 A1 it D hD => ?_⟩
  have Rl := (R.ext A1 R1).weak vs (σ' := wipe σ vs) (wipe_length σ vs) fun i hi => wipe_out hi
  have nD : D ∉ g.sa := fun z => R1.src.there D z hD
  have gD := R1.off hD
  have bD : g.B D = none := by
    cases z : g.B D with
    | none => rfl
    | some u => exact absurd hD (R1.old D (wf D (by rw [z]; exact fun z => by cases z)))
  have Ro := Rl.older (o := .lst []) wf hD
  let P : Nat → Hp → Prop := fun j H => ∃ G2 ssw s2 acc done rest ssz, Rel { g with Old := fun a => g.Old a ∨ a = D } G2 H (wipe σ vs) ssw s2 ∧ Same G1 G2 ∧ H D = some (.lst acc) ∧ G2 D = none ∧ DatL G2 acc done ∧
    popsF t vs i fp (xs.drop j) ssw s2 = some ((rest, ssz), s') ∧ done ++ rest = w.1
  refine ⟨fun j m H => m = xs.length - j ∧ j ≤ xs.length ∧ P j H, ⟨xs.length, by simp, Nat.zero_le _, G1, _, s1, [], [], w.1, w.2, Ro, Same.rfl, upd_same, gD, .nil, em, rfl⟩, ?_⟩
  rintro j m H2 ⟨rfl, hj, G2, ssw, s2, acc, done, rest, ssz, R2, k2, hD2, gD2, l, em2, hys⟩
  obtain ⟨st, go⟩ := it _ G2 H2 s2 R2.e rfl k2 fun z => absurd rfl z
  by_cases hlt : j < xs.length
  · right
    have hx : xs[j]? = some xs[j] := List.getElem?_eq_getElem hlt
    obtain ⟨g1, y1⟩ := go j _ hx
    refine ⟨g1, P (j + 1), fun H' p' => ⟨xs.length - (j + 1), by omega, rfl, hlt, p'⟩, fun x H3 y => ?_⟩
    obtain ⟨e3, ok⟩ := y1 x H3 y
    obtain ⟨R3, A3⟩ := R2.e.ext e3
    rw [List.drop_eq_getElem_cons hlt] at em2
    unfold popsF at em2
    cases et : t xs[j] ssw with
    | none => rw [et] at em2; cases em2
    | some ss1 =>
    rw [et] at em2
    obtain ⟨k, s3, ek, em3⟩ := bnd_inv em2
    obtain ⟨xl, s4, el, em4⟩ := bnd_inv em3
    obtain ⟨el1, el2⟩ := lft_inv el
    subst el2
    obtain ⟨qq, s5, eq, em5⟩ := bnd_inv em4
    obtain ⟨eq1, eq2⟩ := lft_inv eq
    subst eq2
    obtain ⟨ww, s6, ew, em6⟩ := bnd_inv em5
    obtain ⟨e5, e6⟩ := ret_inv em6
    subst e6
    cases e5
    refine ⟨{ g with Old := fun a => g.Old a ∨ a = D }, G2, ssw, s2, xs[j], ss1, R2.ext A3 R3, itemOk0 ok, et, fun σ2 Q2 hl2 out => ⟨wipe_eq hl2 out hix, ?_⟩⟩
    show tBM K "list" rPopAt (tVar i) (tCons (tE 0 fp) tNil) σ2 H3 (fun y H4 => ∃ acc, H4 D = some (.lst acc) ∧ acc.length < sizeLine ∧ P (j + 1) (upd H4 D (.lst (acc ++ [y]))))
    have wf' : ({ g with Old := fun a => g.Old a ∨ a = D } : Gh).Wf := fun a h => .inl (wf a h)
    obtain ⟨p, vs1, _, hσ, hp, _, _⟩ := Q2.own1o wf' (ownL_is el1)
    refine ⟨.ref p, hσ, tyL hp, { g with Old := fun a => g.Old a ∨ a = D }, G2, ss1, s2, k, _, Q2, ek, fun kv G4 H4 R4 A4 w4 => ?_⟩
    have d3 := A3.at nD hD2
    have d4 := A4.at nD d3
    have f4 := A4.off (A3.off gD2 hD2) d3
    obtain ⟨p', vs2, nO, hσ', hp', l', wr⟩ := (Q2.ext A4 R4).own1o wf' (ownL_is el1)
    rw [hσ] at hσ'
    cases hσ'
    have nDp : D ≠ p := fun z => nO (.inr z.symm)
    show rPopAt (V.ref p) [kv] H4 (fun y H4 => ∃ acc, H4 D = some (HO.lst acc) ∧ acc.length < sizeLine ∧ P (j + 1) (upd H4 D (HO.lst (acc ++ [y]))))
    refine hr_popA hp' l' (.cons (show Dat G4 kv k from w4) .nil) eq1 fun v xs2 wv l2 => ⟨acc, by rw [upd_ne nDp]; exact d4, ?_, ?_⟩
    · have h1 := l.length
      have h2 := congrArg List.length hys
      rw [List.length_append, List.length_cons] at h2
      rw [← lim_eq]
      omega
    · have RR := (wr xs2 _ l2).weak vs (σ' := wipe σ vs) hl2.symm fun m hm => (out m fun z => hm (hix m z)).symm
      exact ⟨G4, _, _, acc ++ [v], done ++ [_], _, _, RR.writeOld (.inr rfl) f4 bD nD, Same.trans k2 A4.g, upd_same, f4, (l.mono A4.g).snoc wv, ew, by rw [← hys, List.append_assoc]; rfl⟩
  · left
    have e : j = xs.length := by omega
    subst e
    rw [List.drop_length] at em2
    obtain ⟨e7, e8⟩ := ret_inv (show ret ([], ssw) s2 = some ((rest, ssz), s') from em2)
    subst e8
    cases e7
    rw [List.append_nil] at hys
    have sm : Same G2 (glue G2 H2 [D]) := fun x o h => by
      rw [glue_out (fun z => by rw [List.mem_singleton.mp z, gD2] at h; cases h)]
      exact h
    refine ⟨st, q (.ref D) (glue G2 H2 [D]) H2 ⟨fun x o h => ?_, R2.e.bh, Same.trans R2.e.g0 sm, fun x h => ?_, fun a ha => R2.e.old a (.inl ha), R2.e.src⟩ (Same.trans A1.g (Same.trans k2 sm)) ?_⟩
    · by_cases z : x ∈ [D]
      · rw [glue_in z] at h
        rw [List.mem_singleton.mp z] at h ⊢
        rw [msk_out nD]
        exact h
      · rw [glue_out z] at h
        exact R2.e.gh x o h
    · by_cases z : x ∈ [D]
      · refine .inr fun w => R1.old x w ?_
        rw [List.mem_singleton.mp z]
        exact hD
      · rw [glue_out z] at h
        rcases R2.e.new x h with w | w
        · exact .inl w
        · exact .inr fun y => w (.inl y)
    · rw [← hys]
      exact .lst (by rw [glue_in (List.mem_singleton.mpr rfl)]; exact hD2) (l.mono sm)
end Ev
end

section
set_option linter.all false
set_option Elab.async false
set_option maxRecDepth 100000
/-! The law: its call at the heap behind the top. -/
namespace Ev
open PySem PyProof.Rows L2
section
variable {X : Cx} {bb : Bool} {i : Nat} {ax e tg iter : Expr} {scope : Scope} {own : List (Str × Nat)} {pos apos cpos rp : Pos} {ix : List Nat} {t : Tg} {fp : EvE} {fl : EvL}
/-- return [xs.pop(e) for t in src] -/
theorem ss_pops {elt : Expr} (hc : X.calm = true) (hN : X.N.Nodup) (hi : SI X bb false 0 tg iter fl) (ok : BlkOk X.N X.env.scope scope own) (hg : Blk (fun Y => GT Y false 0 tg ix t) X scope)
    (he : Blk (fun Y => PE Y elt (tBM X.K "list" rPopAt (tVar i) (tCons (tE 0 fp) tNil))) X scope)
    (hix : ∀ i ∈ ix, i ∈ own.map (·.2)) (hni : i ∉ own.map (·.2)) (hs : ∀ x, foldedSetIterable iter X.env x = pure x := by intro _; rfl) :
    SS X (.Return (some (.ListComp elt [⟨tg, iter, [], 0⟩] scope pos)) rp) (retPops (own.map (·.2)) fl t i fp) :=
  ⟨psMono (ps_ret (pe_lc hc hN hi.pi ok (fun s H C cl fp => (hg s H C cl fp).pg) (fun s H C cl fp => pts_nil) (fun s H C cl fp => he s H C cl fp) hs)) fun D σ H h => pops_fin hix hni h⟩
end

/-- the caller asks nothing of what is being shown -/
theorem caller_guards {env : Env} : (callerA.deeper env).guards = some [] := rfl
abbrev lawX (P : Program) (w : World) (K : PySem.W.Frag) (mg : Str → Option Value) (base : PySem.Heap) (N : List Str) (st : Stmt) (f : Addr) (cdv : Value) (s : Shared) (H : Hp) : Cx :=
  (cxOf CX0 P w K mg base N "law" (defScope st) f cdv callerA [] s H fun _ _ _ => False).nox
/-- behind the first statement -/
theorem law_read {P : Program} {w : World} {K : PySem.W.Frag} {X : Cx} {N : List Str} {rest : List Stmt} {st0 : Stmt} {fb : EvS} {a : Addr} {ns : List Int} {H : Hp} {m : Nat} (hN : N.length = m + 2)
    (h0 : PS X st0 (tAsg (tCall (spSrc X.K) [] (fun _ _ _ => False) (tCons (tVar 0) tNil)) (gName 1))) (hr : SB X rest fb) (hq : SqL X.K H a (ns.map V.int)) (hl : ns.length ≤ 63)
    (hfb : ∀ s0 : Src, s0.cells.length ≤ 63 → ∃ s', fb (.dead :: .src :: List.replicate m .dead) s0 = some (.rt (.bool true), s')) :
    ∃ t, PSs X (st0 :: rest) t ∧ t { nx := fun _ _ => False, rt := fun v _ => v = V.bl true } (L2.start N [V.ref a]) H := by
  refine ⟨_, pss_cons h0 hr.ps, ?_⟩
  refine ⟨.ref a, ?_, a, ns, rfl, hq, by omega, fun p c H' sm ne hp hc h1 h2 => ?_⟩
  · show (L2.start N [V.ref a])[0]? = _
    rw [start_at]; rfl
  have hlen : (L2.start N [V.ref a]).length = m + 2 := by
    unfold L2.start
    rw [List.length_append, List.length_replicate, hN]
    simp only [List.length_map, List.length_cons, List.length_nil]
    omega
  show tS fb _ ((L2.start N [V.ref a]).set 1 (some (V.ref p))) H'
  obtain ⟨s', e⟩ := hfb (src0 ns) (by show ((ns.map iabs).reverse).length ≤ 63; rw [List.length_reverse, List.length_map]; exact hl)
  refine ⟨⟨fun _ => none, fun _ => none, fun x => H' x ≠ none, [p, c]⟩, fun _ => none, _, src0 ns, _, s', fun x hx => absurd rfl hx, ⟨⟨fun _ _ h => (nomatch h), fun _ _ h => (nomatch h), fun _ _ h => (nomatch h), fun _ h => absurd rfl h, fun _ h => h, .inr ⟨p, c, rfl, ne, h1, h2⟩⟩, ?_, fun _ => [], ⟨fun i => ?_, fun _ => List.nodup_nil, fun i q hq => absurd hq (by simp), fun i j q hq _ => absurd hq (by simp)⟩⟩, e, fun v G' H'' r k w => ?_⟩
  · rw [List.length_set, hlen]; simp
  · match i with
    | 0 => rfl
    | 1 => exact ⟨p, c, List.getElem?_set_self (by rw [hlen]; omega), rfl, rfl⟩
    | i + 2 =>
      show SlotOk _ _ _ _ _ (List.replicate m Slot.dead)[i]?
      rw [List.getElem?_replicate]
      split <;> rfl
  · cases w; rfl
/-- the law's def, called with the script -/
theorem law_go {P : Program} {w : World} {K : PySem.W.Frag} {mg mb : Str → Option Value} {k m : Nat} {fa a : Addr} {fd : FuncData} {st st0 : Stmt} {rest : List Stmt} {N : List Str} {fb : EvS} {s₁ : Shared} {vs : List Value} {ns : List Int}
    (KX : K.In s₁.heap) (hns : s₁.heap.Ns mainGlobals mg) (hb : s₁.heap.Ns builtinsNs mb) (hbb : ∀ x : Str, x ≠ "__name__" → mb x = bootBuiltins x) (hlim : s₁.heap.NoLimit) (hsm : s₁.heap.NoSeer) (hg : s₁.gens = #[])
    (ha : s₁.heap.get? a = some { cls := .type "list", data := .seq vs.toArray }) (hi : IntsAre vs ns) (hl : ns.length ≤ 63) (hr : Room (k + 1) callerA)
    (F : Fun K "law" "law" st fa fd) (S : FnScope N ["script"] (defScope st)) (hN : N.length = m + 2) (hbind : ∀ (s : Shared) (u : Value), BindsTo s fd ⟨[u], []⟩ [("script", u)]) (hst : defBody st = st0 :: rest)
    (hbody : ∀ (base : PySem.Heap) (cdv : Value) (s : Shared) (H : Hp), K.In base → base.Ns mainGlobals mg → SMok base → Room k (lawX P w K mg base N st fa cdv s H).A → (lawX P w K mg base N st fa cdv s H).A.guards = some [] →
      PS (lawX P w K mg base N st fa cdv s H) st0 (tAsg (tCall (spSrc K) [] (fun _ _ _ => False) (tCons (tVar 0) tNil)) (gName 1)) ∧ SB (lawX P w K mg base N st fa cdv s H) rest fb)
    (hfb : ∀ s0 : Src, s0.cells.length ≤ 63 → ∃ s', fb (.dead :: .src :: List.replicate m .dead) s0 = some (.rt (.bool true), s')) :
    codeAny (model P w) callerA (.call (.ref fa) ⟨[.ref a], []⟩) (fun r s' => r = .ok (.ret (.bool true)) ∧ OldK s₁.heap s'.heap ∧ s'.os = s₁.os ∧ AllBare s'.gens) s₁ := by
  have hl' : ns.length ≤ sizeLine := Nat.le_trans hl (by decide)
  have main : ∀ H : Hp, Only H → SqL K H a (ns.map V.int) → HOk P w H s₁.heap → (∀ b, H b ≠ none → b = a) → (H a ≠ none → K.lookup a = none) →
      codeAny (model P w) callerA (.call (.ref fa) ⟨[.ref a], []⟩) (fun r s' => r = .ok (.ret (.bool true)) ∧ OldK s₁.heap s'.heap ∧ s'.os = s₁.os ∧ AllBare s'.gens) s₁ := by
    intro H hO hS hok hA hK
    have isA : ∀ {b : Addr}, H b ≠ none → b = a := fun h => hA _ h
    have dictFree : ∀ {b : Addr} {o : Obj} {es : Array DictEntry} {ep : Nat}, s₁.heap.get? b = some o → o.data = .dict es ep → H b = none := fun {b o es ep} e d => by
      cases q : H b with
      | none => rfl
      | some u =>
        have e' := isA (b := b) (by rw [q]; exact fun z => by cases z)
        rw [e', ha] at e
        cases e
        cases d
    have nsB : ∀ {b : Addr} {mm : Str → Option Value}, s₁.heap.Ns b mm → (hidT s₁.heap H).Ns b mm := fun {b mm} ⟨o, es, ep, e, d, r⟩ => ⟨o, es, ep, hidT_get e (dictFree e d), d, r⟩
    have kb : K.In (hidT s₁.heap H) := fun b o e => hidT_get (KX b o e) (by
      cases q : H b with
      | none => rfl
      | some u =>
        have e' := isA (b := b) (by rw [q]; exact fun z => by cases z)
        subst e'
        rw [hK (by rw [q]; exact fun z => by cases z)] at e
        cases e)
    have sb : SMok (hidT s₁.heap H) := by
      obtain ⟨o, es, ep, e, d⟩ := smok_of hsm
      exact ⟨o, es, ep, hidT_get e (dictFree e d), d⟩
    have md : Mod K mg (hidT s₁.heap H) := ⟨kb, nsB hns, ⟨mb, nsB hb, hbb⟩, let ⟨mc, h1, h2⟩ := hlim; ⟨mc, nsB h1, h2⟩⟩
    have e0 : Env0 P w K mg (hidT s₁.heap H) callerA [] s₁ H := ⟨rfl, md, fun b o e => of_hidT e, Nat.le_of_eq (hidT_size _ _), trivial, fun b hb => absurd (show b ∈ ([] : List Addr) from hb) (by simp), hok, .of_eq hg⟩
    obtain ⟨oc, od, kV, doc, pm, an, cdv, ct, osl, rfl, lk, hcd⟩ := F.ex
    have hkind : ∀ y ∈ [(("script" : Str), Value.ref a)], (defScope st).names.lookup y.1 = some .local ∨ ((defScope st).names.lookup y.1 = some .cell ∧ ((cellsFrom (s₁.heap.objs.size + 1) (defScope st).names []).lookup y.1).isSome = true) := fun y hy => by
      obtain rfl := List.mem_singleton.mp hy
      rcases S.par "script" (List.mem_singleton.mpr rfl) with q | q
      · exact .inl q
      · exact .inr ⟨q, PySem.W.cellsFrom_some _ _ _ (.inl q)⟩
    refine codeAny_call_function hr.depth (KX _ _ lk) rfl S.co S.gen rfl (PySem.W.codeRec_of KX hcd) (hbind s₁ (.ref a) _ _ _ _ ?_)
    refine wpAny_newFunctionEnv_cells S.kind hkind fun env he s1 x => ?_
    subst he
    refine ⟨hlim.keeps x.toInCall.keep, codeAny_func ?_⟩
    have hrd : Room k (lawX P w K mg (hidT s₁.heap H) N st fa cdv s₁ H).A := hr.deeper _
    obtain ⟨b1, b2⟩ := hbody (hidT s₁.heap H) cdv s₁ H kb (nsB hns) sb hrd caller_guards
    obtain ⟨t, ht, hq⟩ := law_read (P := P) (w := w) (K := K) hN b1 b2 hS hl hfb
    have I : Inv (cxOf CX0 P w K mg (hidT s₁.heap H) N "law" (defScope st) fa cdv callerA [] s₁ H fun _ _ _ => False) [] (L2.start N [V.ref a]) H s1 := inv_start S hr.hd e0 rfl (.cons rfl .nil) x
    rw [← hst] at ht
    refine wpAny_mono (ht.run [] s1 (L2.start N [V.ref a]) H _ (I.wish _) hq) (fun fl s' hs => ?_) fun e s' hs => False.elim hs
    · cases fl with
      | ret u =>
        obtain ⟨v, σ', H', J, rv, q⟩ := hs
        have q' : v = V.bl true := q
        subst q'
        have ru : u = Value.bool true := rv
        subst ru
        refine ⟨rfl, OldK.of_keep fun b o e => ?_, J.os, J.bare⟩
        cases q : H b with
        | none => exact J.base.keep b o e q (by intro z; exact absurd (show b ∈ ([] : List Addr) from z) (by simp)) (by intro z; exact absurd (show b ∈ ([] : List Addr) from z) (by simp))
        | some u =>
          rcases hO b with z | ⟨ob, xs, z⟩
          · rw [q] at z; cases z
          · have z2 := J.base.frzs b ob _ z
            obtain ⟨e1, _⟩ := hok b _ z
            obtain ⟨e2, _⟩ := J.hok b _ z2
            rw [e] at e1; cases e1
            exact e2
      | next => obtain ⟨_, _, _, q⟩ := hs; exact False.elim q
      | brk => obtain ⟨_, _, _, q⟩ := hs; exact False.elim q
      | cont => obtain ⟨_, _, _, q⟩ := hs; exact False.elim q
  have rv := vals_ints hi
  cases hk : K.lookup a with
  | some o =>
    have e := KX a o hk
    rw [ha] at e
    cases e
    exact main (fun _ => none) (fun _ => .inl rfl) (.inr ⟨_, vs.toArray, _, hk, rfl, rfl, rfl, by rw [List.size_toArray, hi.length]; exact hl', by simpa using rv⟩) (fun b u z => (nomatch z)) (fun b z => absurd rfl z) fun z => absurd rfl z
  | none =>
    have at_ : ∀ {b : Addr} {u : HO}, (if b = a then some (HO.frz { cls := .type "list", data := .seq vs.toArray } (.lst (ns.map V.int))) else none) = some u → b = a ∧ u = .frz { cls := .type "list", data := .seq vs.toArray } (.lst (ns.map V.int)) := fun {b u} h => by
      split at h
      · rename_i e; cases h; exact ⟨e, rfl⟩
      · cases h
    refine main (fun b => if b = a then some (.frz { cls := .type "list", data := .seq vs.toArray } (.lst (ns.map V.int))) else none) (fun b => ?_) (.inl (.inr ⟨{ cls := .type "list", data := .seq vs.toArray }, if_pos rfl⟩)) (fun b u z => ?_) (fun b z => ?_) fun _ => hk
    · by_cases h : b = a
      · exact .inr ⟨_, _, if_pos h⟩
      · exact .inl (if_neg h)
    · obtain ⟨rfl, rfl⟩ := at_ z
      exact ⟨ha, by rw [List.length_map]; exact hl', vs, _, rv, ha⟩
    · by_cases h : b = a
      · exact h
      · exact absurd (if_neg h) z
/-- what is shown of the law's text -/
def LawOk (P : Program) (w : World) (K : PySem.W.Frag) (mg : Str → Option Value) (fa : Addr) : Prop :=
  ∃ (k m : Nat) (fd : FuncData) (st st0 : Stmt) (rest : List Stmt) (N : List Str) (fb : EvS), Room (k + 1) callerA ∧ Fun K "law" "law" st fa fd ∧ FnScope N ["script"] (defScope st) ∧ N.length = m + 2 ∧
    (∀ (s : Shared) (u : Value), BindsTo s fd ⟨[u], []⟩ [("script", u)]) ∧ defBody st = st0 :: rest ∧
    (∀ (base : PySem.Heap) (cdv : Value) (s : Shared) (H : Hp), K.In base → base.Ns mainGlobals mg → SMok base → Room k (lawX P w K mg base N st fa cdv s H).A → (lawX P w K mg base N st fa cdv s H).A.guards = some [] →
      PS (lawX P w K mg base N st fa cdv s H) st0 (tAsg (tCall (spSrc K) [] (fun _ _ _ => False) (tCons (tVar 0) tNil)) (gName 1)) ∧ SB (lawX P w K mg base N st fa cdv s H) rest fb) ∧
    ∀ s0 : Src, s0.cells.length ≤ 63 → ∃ s', fb (.dead :: .src :: List.replicate m .dead) s0 = some (.rt (.bool true), s')
theorem walk_go {l : PySem.W.OpenLaw} {q : Program} {loose : List Str} {XP : (Str → Option Value) → PySem.Heap → Prop} {YP : World → PySem.Heap → Prop} {d : DefRec} {K : Params → PySem.W.Frag} (hn : l.most = some 63) (hdf : d.params.defaults = []) (himp : importsNone q = true)
    (hY : ∀ (w : World) (h : PySem.Heap), YP w h → (K w.params).In h)
    (F : ∀ (w : World) (mg : Str → Option Value) (fa : Addr) (h : PySem.Heap), (K w.params).In h → h.Ns mainGlobals mg → mg d.name = some (.ref fa) → LawOk l.prog w (K w.params) mg fa) :
    PySem.W.WalkO q loose XP YP l.row.toRowW d [] (fun f vs => PySem.call f vs) := by
  refine Att.attach_call hn hdf fun w s₀ s₁ mg mb fa o pm cd doc a vs ns G Y ho hd hcd hmg hobj hints hlen hg => ?_
  have KX := hY w _ Y
  obtain ⟨k, m, fd, st, st0, rest, N, fb, hr, hF, hS, hN, hb, hst, hbody, hfb⟩ := F w mg fa _ KX G.T.g hmg
  exact law_go KX G.T.g G.T.b G.T.builtins G.T.nolimit (G.T.seer himp) hg hobj hints hlen hr hF hS hN hb hst hbody hfb
end Ev
end

section
set_option linter.all false
set_option Elab.async false
set_option maxRecDepth 100000
/-! Small words for printed texts. -/
namespace Ev
open PySem PyProof.Rows L2
theorem bt_len : bootBuiltins "len" = some (.builtin "len") := PySem.boot_len
theorem bt_abs : bootBuiltins "abs" = some (.builtin "abs") := by kernel_rfl
theorem bt_sum : bootBuiltins "sum" = some (.builtin "sum") := by kernel_rfl
theorem bt_all : bootBuiltins "all" = some (.builtin "all") := by kernel_rfl
theorem bt_any : bootBuiltins "any" = some (.builtin "any") := by kernel_rfl
theorem bt_min : bootBuiltins "min" = some (.builtin "min") := by kernel_rfl
theorem bt_max : bootBuiltins "max" = some (.builtin "max") := by kernel_rfl
theorem bt_repr : bootBuiltins "repr" = some (.builtin "repr") := by kernel_rfl
theorem bt_isinstance : bootBuiltins "isinstance" = some (.builtin "isinstance") := by kernel_rfl
theorem bt_int : bootBuiltins "int" = some (.type "int") := by kernel_rfl
theorem bt_bool : bootBuiltins "bool" = some (.type "bool") := by kernel_rfl
theorem bt_str : bootBuiltins "str" = some (.type "str") := by kernel_rfl
theorem bt_tuple : bootBuiltins "tuple" = some (.type "tuple") := by kernel_rfl
theorem bt_list : bootBuiltins "list" = some (.type "list") := by kernel_rfl
theorem bt_dict : bootBuiltins "dict" = some (.type "dict") := by kernel_rfl
theorem u65 {k : Nat} {A : Around} (r : Room k A) : A.units + 65 < cLine := by have := r.un; omega
theorem SV.up {X : Cx} {b : Bool} {n m : Nat} {e : Expr} {f : EvE} (h : SV X b n e f) (l : n ≤ m) : SV X b m e f := ⟨peMono h.pe fun σ H Q ⟨g, G, ss, s, d, s', r, ef, q⟩ =>
  ⟨g, G, ss, s, d, s', r, ef, fun v G' H' r' a w => q v G' H' r' a (w.up l)⟩⟩
section
variable {X : Cx} {n : Nat} {pos : Pos}
/-- {} -/
theorem se_dict0 : SE X n (.Dict [] [] pos) (cst (.dict [])) := ⟨peMono pe_dnewK fun σ H Q ⟨g, G, ss, s, d, s', R, ef, q⟩ => by
  obtain ⟨e1, e2⟩ := ret_inv ef
  subst e1; subst e2
  intro p hp
  obtain ⟨R1, A1⟩ := R.e.laidG (o := .dK []) hp
  exact q _ _ _ R1 A1 (.of (show Dat (upd G p (.dK [])) (.ref p) (.dict []) from .dK (ks := []) (vs := []) upd_same rfl .nil) n)⟩
theorem ss_retN : SS X (.Return none pos) (retS (cst .none)) := ⟨psMono ps_retN fun D σ H ⟨g, G, ss, s, o, s', wf, R, ef, q⟩ => by
  obtain ⟨d, s1, e1, f1⟩ := bnd_inv ef
  obtain ⟨e0, e00⟩ := ret_inv (show ret .none s = some (d, s1) from e1)
  subst e0; subst e00
  obtain ⟨e2, e3⟩ := ret_inv f1
  subst e2; subst e3
  exact q .non G H R.e Same.rfl .non⟩
end
end Ev
namespace Ev
open PySem PyProof.Rows L2
section
variable {X : Cx} {bb p : Bool} {n i : Nat} {y : Str} {elt tg iter : Expr} {ifs : List Expr} {scope : Scope} {own : List (Str × Nat)} {pos py spos : Pos} {ix : List Nat} {t : Tg} {c : EvT} {fe : EvE} {fl : EvL}
/-- name = [..] on one line, a new list of our own -/
theorem ss_newLc (hc : X.calm = true) (hN : X.N.Nodup) (hy : X.N[i]? = some y) (hyl : X.env.scope.names.lookup y = some .local) (hsw : swapsWith (.ListComp elt [⟨tg, iter, ifs, 0⟩] scope pos) (some (.Name y py)) spos.line X.env = pure true) (hi : SI X bb p n tg iter fl) (ok : BlkOk X.N X.env.scope scope own)
    (hg : Blk (fun Y => GT Y p (n - 1) tg ix t) X scope) (ht : Blk (fun Y => STs Y ifs c) X scope) (he : Blk (fun Y => SE Y 0 elt fe) X scope)
    (hix : ∀ i ∈ ix, i ∈ own.map (·.2)) (hs : ∀ x, foldedSetIterable iter X.env x = pure x := by intro _; rfl) :
    SS X (.Assign [.Name y py] (.ListComp elt [⟨tg, iter, ifs, 0⟩] scope pos) spos) (newS 1 i (compE (comp (own.map (·.2)) fl t c fe))) :=
  ⟨psMono (ps_setLc hc hN hy hyl hsw hi.pi ok (fun s H C cl fp => (hg s H C cl fp).pg) (fun s H C cl fp => (ht s H C cl fp).pt) (fun s H C cl fp => (he s H C cl fp).pe) hs) fun D σ H ⟨g, G, ss, s, o, s', wf, R, ef, q⟩ => by
    obtain ⟨d, s1, e1, f1⟩ := bnd_inv ef
    obtain ⟨e2, e3⟩ := ret_inv f1
    subst e2; subst e3
    exact lc_fin hix ⟨g, G, ss, s, d, _, R, e1, fun v G' H' F R' A' w fr => q _ G' H' (R.putNew R' A' w fr) A'.g⟩⟩
theorem ss_setLc (hc : X.calm = true) (hN : X.N.Nodup) (hy : X.N[i]? = some y) (hyl : X.env.scope.names.lookup y = some .local) (hsw : swapsWith (.ListComp elt [⟨tg, iter, ifs, 0⟩] scope pos) (some (.Name y py)) spos.line X.env = pure true) (hi : SI X bb p n tg iter fl) (ok : BlkOk X.N X.env.scope scope own)
    (hg : Blk (fun Y => GT Y p (n - 1) tg ix t) X scope) (ht : Blk (fun Y => STs Y ifs c) X scope) (he : Blk (fun Y => SE Y 0 elt fe) X scope)
    (hix : ∀ i ∈ ix, i ∈ own.map (·.2)) (hs : ∀ x, foldedSetIterable iter X.env x = pure x := by intro _; rfl) :
    SS X (.Assign [.Name y py] (.ListComp elt [⟨tg, iter, ifs, 0⟩] scope pos) spos) (setS i (compE (comp (own.map (·.2)) fl t c fe))) :=
  ⟨psMono (ps_setLc hc hN hy hyl hsw hi.pi ok (fun s H C cl fp => (hg s H C cl fp).pg) (fun s H C cl fp => (ht s H C cl fp).pt) (fun s H C cl fp => (he s H C cl fp).pe) hs) fun D σ H ⟨g, G, ss, s, o, s', wf, R, ef, q⟩ => by
    obtain ⟨d, s1, e1, f1⟩ := bnd_inv ef
    obtain ⟨e2, e3⟩ := ret_inv f1
    subst e2; subst e3
    refine lc_fin hix ⟨g, G, ss, s, d, _, R, e1, fun v G' H' F r' a w fr => ?_⟩
    obtain ⟨r2, a2, sm⟩ := r'.glue a fr.new R.e.old R.e.src.there
    exact q _ _ H' ((R.ext a2 r2).put (n := 0) (show Dat _ v d from w.dat sm fun p hp => glue_in hp)) a2.g⟩
end
end Ev
end

section
set_option linter.all false
set_option Elab.async false
set_option maxRecDepth 100000
set_option maxHeartbeats 4000000
namespace K75
open PySem PyProof.Rows L2 Ev
def top (i : Nat) : Stmt := PySem.Challenge.pw_hightrees_k75_rows_with_told_marks.main.body.getD i (.Pass ⟨0, 0, 0, 0⟩)
abbrev s_sum_of : Stmt := top 1
theorem sc_sum_of : FnScope ["one", "other", "k", "mark"] ["one", "other"] (defScope s_sum_of) := ⟨rfl, rfl, rfl, by decide +kernel, rfl, by decide +kernel, by decide +kernel⟩
abbrev s_are_even : Stmt := top 3
theorem sc_are_even : FnScope ["one", "other", "a", "b"] ["one", "other"] (defScope s_are_even) := ⟨rfl, rfl, rfl, by decide +kernel, rfl, by decide +kernel, by decide +kernel⟩
abbrev s_first_one : Stmt := top 4
theorem sc_first_one : FnScope ["row"] ["row"] (defScope s_first_one) := ⟨rfl, rfl, rfl, by decide +kernel, rfl, by decide +kernel, by decide +kernel⟩
abbrev s_told_rows : Stmt := top 5
theorem sc_told_rows : FnScope ["rows", "found", "row", "here", "one", "place"] ["rows"] (defScope s_told_rows) := ⟨rfl, rfl, rfl, by decide +kernel, rfl, by decide +kernel, by decide +kernel⟩
abbrev s_sum_of_rows : Stmt := top 6
theorem sc_sum_of_rows : FnScope ["n", "rows", "found", "row"] ["n", "rows"] (defScope s_sum_of_rows) := ⟨rfl, rfl, rfl, by decide +kernel, rfl, by decide +kernel, by decide +kernel⟩
abbrev s_free_base : Stmt := top 8
theorem sc_free_base : FnScope ["code", "n", "base", "leads", "found", "place", "ones", "row", "lead", "p"] ["code"] (defScope s_free_base) := ⟨rfl, rfl, rfl, by decide +kernel, rfl, by decide +kernel, by decide +kernel⟩
abbrev s_has_row : Stmt := top 9
theorem sc_has_row : FnScope ["code", "row", "other"] ["code", "row"] (defScope s_has_row) := ⟨rfl, rfl, rfl, by decide +kernel, rfl, by decide +kernel, by decide +kernel⟩
abbrev s_reduced : Stmt := top 11
theorem sc_reduced : FnScope ["pair", "found", "row", "numbers", "one", "others", "i"] ["pair", "found"] (defScope s_reduced) := ⟨rfl, rfl, rfl, by decide +kernel, rfl, by decide +kernel, by decide +kernel⟩
abbrev s_lot_that_makes : Stmt := top 10
theorem sc_lot_that_makes : FnScope ["rows", "row", "found", "i", "one", "made", "here"] ["rows", "row"] (defScope s_lot_that_makes) := ⟨rfl, rfl, rfl, by decide +kernel, rfl, by decide +kernel, by decide +kernel⟩
abbrev s_is_integer : Stmt := top 12
theorem sc_is_integer : FnScope ["value"] ["value"] (defScope s_is_integer) := ⟨rfl, rfl, rfl, by decide +kernel, rfl, by decide +kernel, by decide +kernel⟩
abbrev s_is_row : Stmt := top 13
theorem sc_is_row : FnScope ["n", "value", "mark"] ["n", "value"] (defScope s_is_row) := ⟨rfl, rfl, rfl, by decide +kernel, rfl, by decide +kernel, by decide +kernel⟩
abbrev s_is_worded : Stmt := top 14
theorem sc_is_worded : FnScope ["value", "words"] ["value", "words"] (defScope s_is_worded) := ⟨rfl, rfl, rfl, by decide +kernel, rfl, by decide +kernel, by decide +kernel⟩
abbrev s_first_odd : Stmt := top 15
theorem sc_first_odd : FnScope ["base", "row", "some", "i", "one"] ["base", "row"] (defScope s_first_odd) := ⟨rfl, rfl, rfl, by decide +kernel, rfl, by decide +kernel, by decide +kernel⟩
abbrev s_marks_at : Stmt := top 17
theorem sc_marks_at : FnScope ["row", "places", "place"] ["row", "places"] (defScope s_marks_at) := ⟨rfl, rfl, rfl, by decide +kernel, rfl, by decide +kernel, by decide +kernel⟩
abbrev s_seen_at : Stmt := top 18
theorem sc_seen_at : FnScope ["code", "places", "row"] ["code", "places"] (defScope s_seen_at) := ⟨rfl, rfl, rfl, by decide +kernel, rfl, by decide +kernel, by decide +kernel⟩
abbrev s_rank_at : Stmt := top 19
theorem sc_rank_at : FnScope ["code", "places"] ["code", "places"] (defScope s_rank_at) := ⟨rfl, rfl, rfl, by decide +kernel, rfl, by decide +kernel, by decide +kernel⟩
abbrev s_marks_paper : Stmt := top 20
theorem sc_marks_paper : FnScope ["code", "places", "marks", "lot", "other", "row", "i", "late", "place"] ["code", "places", "marks"] (defScope s_marks_paper) := ⟨rfl, rfl, rfl, by decide +kernel, rfl, by decide +kernel, by decide +kernel⟩
abbrev s_judge_marks : Stmt := top 21
theorem sc_judge_marks : FnScope ["code", "places", "marks", "value", "row", "wrong", "odd", "place", "mark"] ["code", "places", "marks", "value"] (defScope s_judge_marks) := ⟨rfl, rfl, rfl, by decide +kernel, rfl, by decide +kernel, by decide +kernel⟩
abbrev s_marks_count : Stmt := top 22
theorem sc_marks_count : FnScope ["code", "places", "marks"] ["code", "places", "marks"] (defScope s_marks_count) := ⟨rfl, rfl, rfl, by decide +kernel, rfl, by decide +kernel, by decide +kernel⟩
abbrev s__law_source : Stmt := top 24
theorem sc__law_source : FnScope ["script", "mixed", "cell"] ["script"] (defScope s__law_source) := ⟨rfl, rfl, rfl, by decide +kernel, rfl, by decide +kernel, by decide +kernel⟩
abbrev s__law_pick : Stmt := top 25
theorem sc__law_pick : FnScope ["source", "many", "left", "mixed"] ["source", "many"] (defScope s__law_pick) := ⟨rfl, rfl, rfl, by decide +kernel, rfl, by decide +kernel, by decide +kernel⟩
abbrev s__law_of : Stmt := top 26
theorem sc__law_of : FnScope ["source", "some"] ["source", "some"] (defScope s__law_of) := ⟨rfl, rfl, rfl, by decide +kernel, rfl, by decide +kernel, by decide +kernel⟩
abbrev s__law_mixed : Stmt := top 27
theorem sc__law_mixed : FnScope ["source", "things", "rest", "lap"] ["source", "things"] (defScope s__law_mixed) := ⟨rfl, rfl, rfl, by decide +kernel, rfl, by decide +kernel, by decide +kernel⟩
abbrev s__law_sum : Stmt := top 28
theorem sc__law_sum : FnScope ["one", "other", "a", "b"] ["one", "other"] (defScope s__law_sum) := ⟨rfl, rfl, rfl, by decide +kernel, rfl, by decide +kernel, by decide +kernel⟩
abbrev s__law_told : Stmt := top 29
theorem sc__law_told : FnScope ["n", "rows", "left", "found", "p", "some", "head", "row"] ["n", "rows"] (defScope s__law_told) := ⟨rfl, rfl, rfl, by decide +kernel, rfl, by decide +kernel, by decide +kernel⟩
abbrev s__law_row : Stmt := top 30
theorem sc__law_row : FnScope ["source", "n", "share", "p"] ["source", "n"] (defScope s__law_row) := ⟨rfl, rfl, rfl, by decide +kernel, rfl, by decide +kernel, by decide +kernel⟩
abbrev s__law_base : Stmt := top 31
theorem sc__law_base : FnScope ["source", "n", "k", "found", "lap", "row", "p", "q"] ["source", "n", "k"] (defScope s__law_base) := ⟨rfl, rfl, rfl, by decide +kernel, rfl, by decide +kernel, by decide +kernel⟩
abbrev s__law_code : Stmt := top 32
theorem sc__law_code : FnScope ["source", "most", "n"] ["source", "most"] (defScope s__law_code) := ⟨rfl, rfl, rfl, by decide +kernel, rfl, by decide +kernel, by decide +kernel⟩
abbrev s__law_some_row : Stmt := top 33
theorem sc__law_some_row : FnScope ["source", "code", "found", "row"] ["source", "code"] (defScope s__law_some_row) := ⟨rfl, rfl, rfl, by decide +kernel, rfl, by decide +kernel, by decide +kernel⟩
abbrev s__law_is_odd : Stmt := top 34
theorem sc__law_is_odd : FnScope ["one", "other", "a", "b"] ["one", "other"] (defScope s__law_is_odd) := ⟨rfl, rfl, rfl, by decide +kernel, rfl, by decide +kernel, by decide +kernel⟩
abbrev s__law_leading : Stmt := top 35
theorem sc__law_leading : FnScope ["base", "row"] ["base"] (defScope s__law_leading) := ⟨rfl, rfl, rfl, by decide +kernel, rfl, by decide +kernel, by decide +kernel⟩
abbrev s__law_free : Stmt := top 36
theorem sc__law_free : FnScope ["n", "rows", "base", "found", "leading", "p", "ones", "row", "q"] ["n", "rows"] (defScope s__law_free) := ⟨rfl, rfl, rfl, by decide +kernel, rfl, by decide +kernel, by decide +kernel⟩
abbrev s__law_other : Stmt := top 37
theorem sc__law_other : FnScope ["code"] ["code"] (defScope s__law_other) := ⟨rfl, rfl, rfl, by decide +kernel, rfl, by decide +kernel, by decide +kernel⟩
abbrev s__law_has : Stmt := top 38
theorem sc__law_has : FnScope ["code", "row"] ["code", "row"] (defScope s__law_has) := ⟨rfl, rfl, rfl, by decide +kernel, rfl, by decide +kernel, by decide +kernel⟩
abbrev s__law_number : Stmt := top 39
theorem sc__law_number : FnScope ["value"] ["value"] (defScope s__law_number) := ⟨rfl, rfl, rfl, by decide +kernel, rfl, by decide +kernel, by decide +kernel⟩
abbrev s__law_are_below : Stmt := top 40
theorem sc__law_are_below : FnScope ["value", "most", "one"] ["value", "most"] (defScope s__law_are_below) := ⟨rfl, rfl, rfl, by decide +kernel, rfl, by decide +kernel, by decide +kernel⟩
abbrev s__law_is_row : Stmt := top 41
theorem sc__law_is_row : FnScope ["n", "value"] ["n", "value"] (defScope s__law_is_row) := ⟨rfl, rfl, rfl, by decide +kernel, rfl, by decide +kernel, by decide +kernel⟩
abbrev s__law_bent : Stmt := top 42
theorem sc__law_bent : FnScope ["source", "value", "odd", "some", "k", "way"] ["source", "value"] (defScope s__law_bent) := ⟨rfl, rfl, rfl, by decide +kernel, rfl, by decide +kernel, by decide +kernel⟩
abbrev s__law_places : Stmt := top 43
theorem sc__law_places : FnScope ["source", "n", "found", "p"] ["source", "n"] (defScope s__law_places) := ⟨rfl, rfl, rfl, by decide +kernel, rfl, by decide +kernel, by decide +kernel⟩
abbrev s__law_at : Stmt := top 44
theorem sc__law_at : FnScope ["row", "places", "p"] ["row", "places"] (defScope s__law_at) := ⟨rfl, rfl, rfl, by decide +kernel, rfl, by decide +kernel, by decide +kernel⟩
abbrev s__law_seen : Stmt := top 45
theorem sc__law_seen : FnScope ["code", "places", "row"] ["code", "places"] (defScope s__law_seen) := ⟨rfl, rfl, rfl, by decide +kernel, rfl, by decide +kernel, by decide +kernel⟩
abbrev s__law_fault : Stmt := top 46
theorem sc__law_fault : FnScope ["code", "places", "marks", "value", "n", "base", "wrong", "p", "mark", "i", "row"] ["code", "places", "marks", "value"] (defScope s__law_fault) := ⟨rfl, rfl, rfl, by decide +kernel, rfl, by decide +kernel, by decide +kernel⟩
abbrev s_law : Stmt := top 47
theorem sc_law : FnScope ["script", "source", "lap", "code", "n", "kept", "some", "places", "marks", "seen", "is_there", "told", "due", "turn", "own", "values", "value", "shown"] ["script"] (defScope s_law) := ⟨rfl, rfl, rfl, by decide +kernel, rfl, by decide +kernel, by decide +kernel⟩
structure Txt (K : PySem.W.Frag) (mg : Str → Option Value) where
  a_sum_of : Addr
  d_sum_of : FuncData
  f_sum_of : Fun K "sum_of" "sum_of" s_sum_of a_sum_of d_sum_of
  m_sum_of : mg "sum_of" = some (.ref a_sum_of)
  b_sum_of : Binds K d_sum_of ["one", "other"] []
  a_are_even : Addr
  d_are_even : FuncData
  f_are_even : Fun K "are_even" "are_even" s_are_even a_are_even d_are_even
  m_are_even : mg "are_even" = some (.ref a_are_even)
  b_are_even : Binds K d_are_even ["one", "other"] []
  a_first_one : Addr
  d_first_one : FuncData
  f_first_one : Fun K "first_one" "first_one" s_first_one a_first_one d_first_one
  m_first_one : mg "first_one" = some (.ref a_first_one)
  b_first_one : Binds K d_first_one ["row"] []
  a_told_rows : Addr
  d_told_rows : FuncData
  f_told_rows : Fun K "told_rows" "told_rows" s_told_rows a_told_rows d_told_rows
  m_told_rows : mg "told_rows" = some (.ref a_told_rows)
  b_told_rows : Binds K d_told_rows ["rows"] []
  a_sum_of_rows : Addr
  d_sum_of_rows : FuncData
  f_sum_of_rows : Fun K "sum_of_rows" "sum_of_rows" s_sum_of_rows a_sum_of_rows d_sum_of_rows
  m_sum_of_rows : mg "sum_of_rows" = some (.ref a_sum_of_rows)
  b_sum_of_rows : Binds K d_sum_of_rows ["n", "rows"] []
  a_free_base : Addr
  d_free_base : FuncData
  f_free_base : Fun K "free_base" "free_base" s_free_base a_free_base d_free_base
  m_free_base : mg "free_base" = some (.ref a_free_base)
  b_free_base : Binds K d_free_base ["code"] []
  a_has_row : Addr
  d_has_row : FuncData
  f_has_row : Fun K "has_row" "has_row" s_has_row a_has_row d_has_row
  m_has_row : mg "has_row" = some (.ref a_has_row)
  b_has_row : Binds K d_has_row ["code", "row"] []
  a_reduced : Addr
  d_reduced : FuncData
  f_reduced : Fun K "reduced" "reduced" s_reduced a_reduced d_reduced
  m_reduced : mg "reduced" = some (.ref a_reduced)
  b_reduced : Binds K d_reduced ["pair", "found"] []
  a_lot_that_makes : Addr
  d_lot_that_makes : FuncData
  f_lot_that_makes : Fun K "lot_that_makes" "lot_that_makes" s_lot_that_makes a_lot_that_makes d_lot_that_makes
  m_lot_that_makes : mg "lot_that_makes" = some (.ref a_lot_that_makes)
  b_lot_that_makes : Binds K d_lot_that_makes ["rows", "row"] []
  a_is_integer : Addr
  d_is_integer : FuncData
  f_is_integer : Fun K "is_integer" "is_integer" s_is_integer a_is_integer d_is_integer
  m_is_integer : mg "is_integer" = some (.ref a_is_integer)
  b_is_integer : Binds K d_is_integer ["value"] []
  a_is_row : Addr
  d_is_row : FuncData
  f_is_row : Fun K "is_row" "is_row" s_is_row a_is_row d_is_row
  m_is_row : mg "is_row" = some (.ref a_is_row)
  b_is_row : Binds K d_is_row ["n", "value"] []
  a_is_worded : Addr
  d_is_worded : FuncData
  f_is_worded : Fun K "is_worded" "is_worded" s_is_worded a_is_worded d_is_worded
  m_is_worded : mg "is_worded" = some (.ref a_is_worded)
  b_is_worded : Binds K d_is_worded ["value", "words"] []
  a_first_odd : Addr
  d_first_odd : FuncData
  f_first_odd : Fun K "first_odd" "first_odd" s_first_odd a_first_odd d_first_odd
  m_first_odd : mg "first_odd" = some (.ref a_first_odd)
  b_first_odd : Binds K d_first_odd ["base", "row"] []
  a_marks_at : Addr
  d_marks_at : FuncData
  f_marks_at : Fun K "marks_at" "marks_at" s_marks_at a_marks_at d_marks_at
  m_marks_at : mg "marks_at" = some (.ref a_marks_at)
  b_marks_at : Binds K d_marks_at ["row", "places"] []
  a_seen_at : Addr
  d_seen_at : FuncData
  f_seen_at : Fun K "seen_at" "seen_at" s_seen_at a_seen_at d_seen_at
  m_seen_at : mg "seen_at" = some (.ref a_seen_at)
  b_seen_at : Binds K d_seen_at ["code", "places"] []
  a_rank_at : Addr
  d_rank_at : FuncData
  f_rank_at : Fun K "rank_at" "rank_at" s_rank_at a_rank_at d_rank_at
  m_rank_at : mg "rank_at" = some (.ref a_rank_at)
  b_rank_at : Binds K d_rank_at ["code", "places"] []
  a_marks_paper : Addr
  d_marks_paper : FuncData
  f_marks_paper : Fun K "marks_paper" "marks_paper" s_marks_paper a_marks_paper d_marks_paper
  m_marks_paper : mg "marks_paper" = some (.ref a_marks_paper)
  b_marks_paper : Binds K d_marks_paper ["code", "places", "marks"] []
  a_judge_marks : Addr
  d_judge_marks : FuncData
  f_judge_marks : Fun K "judge_marks" "judge_marks" s_judge_marks a_judge_marks d_judge_marks
  m_judge_marks : mg "judge_marks" = some (.ref a_judge_marks)
  b_judge_marks : Binds K d_judge_marks ["code", "places", "marks", "value"] []
  a_marks_count : Addr
  d_marks_count : FuncData
  f_marks_count : Fun K "marks_count" "marks_count" s_marks_count a_marks_count d_marks_count
  m_marks_count : mg "marks_count" = some (.ref a_marks_count)
  b_marks_count : Binds K d_marks_count ["code", "places", "marks"] []
  a__law_source : Addr
  d__law_source : FuncData
  f__law_source : Fun K "_law_source" "_law_source" s__law_source a__law_source d__law_source
  m__law_source : mg "_law_source" = some (.ref a__law_source)
  b__law_source : Binds K d__law_source ["script"] []
  a__law_pick : Addr
  d__law_pick : FuncData
  f__law_pick : Fun K "_law_pick" "_law_pick" s__law_pick a__law_pick d__law_pick
  m__law_pick : mg "_law_pick" = some (.ref a__law_pick)
  b__law_pick : Binds K d__law_pick ["source", "many"] []
  a__law_of : Addr
  d__law_of : FuncData
  f__law_of : Fun K "_law_of" "_law_of" s__law_of a__law_of d__law_of
  m__law_of : mg "_law_of" = some (.ref a__law_of)
  b__law_of : Binds K d__law_of ["source", "some"] []
  a__law_mixed : Addr
  d__law_mixed : FuncData
  f__law_mixed : Fun K "_law_mixed" "_law_mixed" s__law_mixed a__law_mixed d__law_mixed
  m__law_mixed : mg "_law_mixed" = some (.ref a__law_mixed)
  b__law_mixed : Binds K d__law_mixed ["source", "things"] []
  a__law_sum : Addr
  d__law_sum : FuncData
  f__law_sum : Fun K "_law_sum" "_law_sum" s__law_sum a__law_sum d__law_sum
  m__law_sum : mg "_law_sum" = some (.ref a__law_sum)
  b__law_sum : Binds K d__law_sum ["one", "other"] []
  a__law_told : Addr
  d__law_told : FuncData
  f__law_told : Fun K "_law_told" "_law_told" s__law_told a__law_told d__law_told
  m__law_told : mg "_law_told" = some (.ref a__law_told)
  b__law_told : Binds K d__law_told ["n", "rows"] []
  a__law_row : Addr
  d__law_row : FuncData
  f__law_row : Fun K "_law_row" "_law_row" s__law_row a__law_row d__law_row
  m__law_row : mg "_law_row" = some (.ref a__law_row)
  b__law_row : Binds K d__law_row ["source", "n"] []
  a__law_base : Addr
  d__law_base : FuncData
  f__law_base : Fun K "_law_base" "_law_base" s__law_base a__law_base d__law_base
  m__law_base : mg "_law_base" = some (.ref a__law_base)
  b__law_base : Binds K d__law_base ["source", "n", "k"] []
  a__law_code : Addr
  d__law_code : FuncData
  f__law_code : Fun K "_law_code" "_law_code" s__law_code a__law_code d__law_code
  m__law_code : mg "_law_code" = some (.ref a__law_code)
  b__law_code : Binds K d__law_code ["source", "most"] []
  a__law_some_row : Addr
  d__law_some_row : FuncData
  f__law_some_row : Fun K "_law_some_row" "_law_some_row" s__law_some_row a__law_some_row d__law_some_row
  m__law_some_row : mg "_law_some_row" = some (.ref a__law_some_row)
  b__law_some_row : Binds K d__law_some_row ["source", "code"] []
  a__law_is_odd : Addr
  d__law_is_odd : FuncData
  f__law_is_odd : Fun K "_law_is_odd" "_law_is_odd" s__law_is_odd a__law_is_odd d__law_is_odd
  m__law_is_odd : mg "_law_is_odd" = some (.ref a__law_is_odd)
  b__law_is_odd : Binds K d__law_is_odd ["one", "other"] []
  a__law_leading : Addr
  d__law_leading : FuncData
  f__law_leading : Fun K "_law_leading" "_law_leading" s__law_leading a__law_leading d__law_leading
  m__law_leading : mg "_law_leading" = some (.ref a__law_leading)
  b__law_leading : Binds K d__law_leading ["base"] []
  a__law_free : Addr
  d__law_free : FuncData
  f__law_free : Fun K "_law_free" "_law_free" s__law_free a__law_free d__law_free
  m__law_free : mg "_law_free" = some (.ref a__law_free)
  b__law_free : Binds K d__law_free ["n", "rows"] []
  a__law_other : Addr
  d__law_other : FuncData
  f__law_other : Fun K "_law_other" "_law_other" s__law_other a__law_other d__law_other
  m__law_other : mg "_law_other" = some (.ref a__law_other)
  b__law_other : Binds K d__law_other ["code"] []
  a__law_has : Addr
  d__law_has : FuncData
  f__law_has : Fun K "_law_has" "_law_has" s__law_has a__law_has d__law_has
  m__law_has : mg "_law_has" = some (.ref a__law_has)
  b__law_has : Binds K d__law_has ["code", "row"] []
  a__law_number : Addr
  d__law_number : FuncData
  f__law_number : Fun K "_law_number" "_law_number" s__law_number a__law_number d__law_number
  m__law_number : mg "_law_number" = some (.ref a__law_number)
  b__law_number : Binds K d__law_number ["value"] []
  a__law_are_below : Addr
  d__law_are_below : FuncData
  f__law_are_below : Fun K "_law_are_below" "_law_are_below" s__law_are_below a__law_are_below d__law_are_below
  m__law_are_below : mg "_law_are_below" = some (.ref a__law_are_below)
  b__law_are_below : Binds K d__law_are_below ["value", "most"] []
  a__law_is_row : Addr
  d__law_is_row : FuncData
  f__law_is_row : Fun K "_law_is_row" "_law_is_row" s__law_is_row a__law_is_row d__law_is_row
  m__law_is_row : mg "_law_is_row" = some (.ref a__law_is_row)
  b__law_is_row : Binds K d__law_is_row ["n", "value"] []
  a__law_bent : Addr
  d__law_bent : FuncData
  f__law_bent : Fun K "_law_bent" "_law_bent" s__law_bent a__law_bent d__law_bent
  m__law_bent : mg "_law_bent" = some (.ref a__law_bent)
  b__law_bent : Binds K d__law_bent ["source", "value"] []
  a__law_places : Addr
  d__law_places : FuncData
  f__law_places : Fun K "_law_places" "_law_places" s__law_places a__law_places d__law_places
  m__law_places : mg "_law_places" = some (.ref a__law_places)
  b__law_places : Binds K d__law_places ["source", "n"] []
  a__law_at : Addr
  d__law_at : FuncData
  f__law_at : Fun K "_law_at" "_law_at" s__law_at a__law_at d__law_at
  m__law_at : mg "_law_at" = some (.ref a__law_at)
  b__law_at : Binds K d__law_at ["row", "places"] []
  a__law_seen : Addr
  d__law_seen : FuncData
  f__law_seen : Fun K "_law_seen" "_law_seen" s__law_seen a__law_seen d__law_seen
  m__law_seen : mg "_law_seen" = some (.ref a__law_seen)
  b__law_seen : Binds K d__law_seen ["code", "places"] []
  a__law_fault : Addr
  d__law_fault : FuncData
  f__law_fault : Fun K "_law_fault" "_law_fault" s__law_fault a__law_fault d__law_fault
  m__law_fault : mg "_law_fault" = some (.ref a__law_fault)
  b__law_fault : Binds K d__law_fault ["code", "places", "marks", "value"] []
  a_law : Addr
  d_law : FuncData
  f_law : Fun K "law" "law" s_law a_law d_law
  m_law : mg "law" = some (.ref a_law)
  b_law : Binds K d_law ["script"] []
  n_abs : mg "abs" = none
  n_all : mg "all" = none
  n_bool : mg "bool" = none
  n_enumerate : mg "enumerate" = none
  n_int : mg "int" = none
  n_isinstance : mg "isinstance" = none
  n_len : mg "len" = none
  n_list : mg "list" = none
  n_max : mg "max" = none
  n_range : mg "range" = none
  n_repr : mg "repr" = none
  n_sorted : mg "sorted" = none
  n_str : mg "str" = none
  n_sum : mg "sum" = none
  n_tuple : mg "tuple" = none
  n_zip : mg "zip" = none
def b_sum_of : EvS := (seq (retS (un toTup (compE (comp [2, 3] (enumL (seqL (rd 0 0))) (tTup [(tName 0 2), (tName 0 3)]) yes (un intD (bin neD (rd 0 3) (bin ixS (rd 0 1) (rd 0 2)))))))) pass)
def F_sum_of : Fn := runF 4 b_sum_of
def b_are_even : EvS := (seq (retS (bin eqD (bin modD (un sumD (compE (comp [2, 3] (zipSL (seqL (rd 0 0)) (seqL (rd 0 1))) (tTup [(tName 0 2), (tName 0 3)]) yes (bin mulD (rd 0 2) (rd 0 3))))) (cst (.int 2))) (cst (.int 0)))) pass)
def F_are_even : Fn := runF 4 b_are_even
def b_first_one : EvS := (seq (retS (bin idxD (rd 0 0) (cst (.int 1)))) pass)
def F_first_one : Fn := runF 1 b_first_one
def b_told_rows : EvS := (seq (setS 1 (lstE nilA)) (seq (forS (seqL (rdB 0 0)) (tName 0 2) (seq (setS 3 (rd 0 2)) (seq (forS (seqL (rdB 0 1)) (tName 0 4) (seq (setS 3 (iteE (tst (bin eqD (bin ixS (rd 0 3) (callE F_first_one (argsE 0 (rd 0 4) argsN))) (cst (.int 1)))) (callE F_sum_of (argsE 0 (rd 0 3) (argsE 0 (rd 0 4) argsN))) (rd 0 3))) pass) [4]) (seq (ifS (tst (bin inS (cst (.int 1)) (rd 0 3))) (seq (setS 5 (callE F_first_one (argsE 0 (rd 0 3) argsN))) (seq (setS 1 (bin addD (compE (comp [4] (seqL (rd 0 1)) (tName 0 4) yes (iteE (tst (bin eqD (bin ixS (rd 0 4) (rd 0 5)) (cst (.int 1)))) (callE F_sum_of (argsE 0 (rd 0 4) (argsE 0 (rd 0 3) argsN))) (rd 0 4)))) (lstE (consA (rd 0 3) nilA)))) pass)) pass) pass))) [2, 3, 4, 5]) (seq (retS (un toTup (un sortTR (rd 0 1)))) pass)))
def F_told_rows : Fn := runF 6 b_told_rows
def b_sum_of_rows : EvS := (seq (setS 2 (bin mulD (tupE (consA (cst (.int 0)) nilA)) (rd 0 0))) (seq (forS (seqL (rdB 0 1)) (tName 0 3) (seq (setS 2 (callE F_sum_of (argsE 0 (rd 0 2) (argsE 0 (rd 0 3) argsN)))) pass) [3]) (seq (retS (rd 0 2)) pass)))
def F_sum_of_rows : Fn := runF 4 b_sum_of_rows
def b_free_base : EvS := (seq (parS [1, 2] (wV (bin ixS (rd 0 0) (cst (.int 0))) (wV (callE F_told_rows (argsE 0 (bin ixS (rd 0 0) (cst (.int 1))) argsN)) argsN))) (seq (parS [3, 4] (wV (compE (comp [7] (seqL (rd 0 2)) (tName 0 7) yes (callE F_first_one (argsE 0 (rd 0 7) argsN)))) (wO 1 (lstE nilA) argsN))) (seq (forS (rngL (cst (.int 0)) (rd 0 1)) (tName 0 5) (seq (ifS (tst (bin ninS (rd 0 5) (rd 0 3))) (seq (setS 6 (bin addD (lstE (consA (rd 0 5) nilA)) (compE (comp [8, 7] (zipSL (seqL (rd 0 3)) (seqL (rd 0 2))) (tTup [(tName 0 8), (tName 0 7)]) (tst (bin eqD (bin ixS (rd 0 7) (rd 0 5)) (cst (.int 1)))) (rd 0 8))))) (seq (dropM (chg 4 oApp (consA (un toTup (compE (comp [9] (rngL (cst (.int 0)) (rd 0 1)) (tName 0 9) yes (un intD (bin inS (rd 0 9) (rd 0 6)))))) nilA))) pass)) pass) pass) [5, 6]) (seq (retS (un toTup (rd 1 4))) pass))))
def F_free_base : Fn := runF 10 b_free_base
def b_has_row : EvS := (seq (retS (un allD (compE (comp [2] (seqL (callE F_free_base (argsE 0 (rd 0 0) argsN))) (tName 0 2) yes (callE F_are_even (argsE 0 (rd 0 1) (argsE 0 (rd 0 2) argsN))))))) pass)
def F_has_row : Fn := runF 3 b_has_row
def b_reduced : EvS := (seq (tgS (tTup [(tName 0 2), (tName 0 3)]) (rd 0 0)) (seq (forS (seqL (rdB 1 1)) (tTup [(tName 0 4), (tName 0 5)]) (seq (ifS (tst (bin eqD (bin ixS (rd 0 2) (callE F_first_one (argsE 0 (rd 0 4) argsN))) (cst (.int 1)))) (seq (setS 2 (callE F_sum_of (argsE 0 (rd 0 2) (argsE 0 (rd 0 4) argsN)))) (seq (setS 3 (un toTup (un sortI' (compE (comp [6] (seqL (tupE (starA (starE (rd 0 3)) (starA (starE (rd 0 5)) nilA)))) (tName 0 6) (tst (bin neD (bin inS (rd 0 6) (rd 0 3)) (bin inS (rd 0 6) (rd 0 5)))) (rd 0 6)))))) pass)) pass) pass) [4, 5]) (seq (retS (tupE (consA (rd 0 2) (consA (rd 0 3) nilA)))) pass)))
def F_reduced : Fn := runF 7 b_reduced
def b_lot_that_makes : EvS := (seq (newS 1 2 (lstE nilA)) (seq (forS (enumL (seqL (rdB 0 0))) (tTup [(tName 0 3), (tName 0 4)]) (seq (setS 5 (callE F_reduced (argsE 0 (tupE (consA (rd 0 4) (consA (tupE (consA (rd 0 3) nilA)) nilA))) (argsE 1 (rd 1 2) argsN)))) (seq (ifS (tst (bin inS (cst (.int 1)) (bin ixS (rd 0 5) (cst (.int 0))))) (seq (dropM (chg 2 oApp (consA (rd 0 5) nilA))) pass) pass) pass)) [3, 4, 5]) (seq (setS 6 (callE F_reduced (argsE 0 (tupE (consA (rd 0 1) (consA (tupE nilA) nilA))) (argsE 1 (rd 1 2) argsN)))) (seq (retS (iteE (tst (bin inS (cst (.int 1)) (bin ixS (rd 0 6) (cst (.int 0))))) (cst .none) (bin ixS (rd 0 6) (cst (.int 1))))) pass))))
def F_lot_that_makes : Fn := runF 7 b_lot_that_makes
def b_is_integer : EvS := (seq (retS (andV (un (isiD .int) (rd 0 0)) (andV (notV (un (isiD .bool) (rd 0 0))) (bin geD (rd 0 0) (cst (.int 0)))))) pass)
def F_is_integer : Fn := runF 1 b_is_integer
def b_is_row : EvS := (seq (retS (andV (un (isiD .tuple) (rd 0 1)) (andV (bin eqD (un lenD (rd 0 1)) (rd 0 0)) (un allD (compE (comp [2] (seqL (rd 0 1)) (tName 0 2) yes (andV (callE F_is_integer (argsE 0 (rd 0 2) argsN)) (bin ltD (rd 0 2) (cst (.int 2)))))))))) pass)
def F_is_row : Fn := runF 3 b_is_row
def b_is_worded : EvS := (seq (retS (andV (un (isiD .tuple) (rd 0 0)) (andV (bin eqD (un lenD (rd 0 0)) (cst (.int 2))) (andV (un (isiD .str) (bin ixS (rd 0 0) (cst (.int 0)))) (bin inS (bin ixS (rd 0 0) (cst (.int 0))) (rd 0 1)))))) pass)
def F_is_worded : Fn := runF 2 b_is_worded
def b_first_odd : EvS := (seq (setS 2 (compE (comp [3, 4] (enumL (seqL (rd 0 0))) (tTup [(tName 0 3), (tName 0 4)]) (notT (tst (callE F_are_even (argsE 0 (rd 0 4) (argsE 0 (rd 0 1) argsN))))) (rd 0 3)))) (seq (retS (iteE (tru (rd 0 2)) (bin ixS (rd 0 2) (cst (.int 0))) (cst .none))) pass))
def F_first_odd : Fn := runF 5 b_first_odd
def b_marks_at : EvS := (seq (retS (un toTup (compE (comp [2] (seqL (rd 0 1)) (tName 0 2) yes (bin ixS (rd 0 0) (rd 0 2)))))) pass)
def F_marks_at : Fn := runF 3 b_marks_at
def b_seen_at : EvS := (seq (retS (tupE (consA (un lenD (rd 0 1)) (consA (callE F_told_rows (argsE 0 (compE (comp [2] (seqL (bin ixS (rd 0 0) (cst (.int 1)))) (tName 0 2) yes (callE F_marks_at (argsE 0 (rd 0 2) (argsE 0 (rd 0 1) argsN))))) argsN)) nilA)))) pass)
def F_seen_at : Fn := runF 3 b_seen_at
def b_rank_at : EvS := (seq (retS (iteE (tru (rd 0 1)) (un lenD (bin ixS (callE F_seen_at (argsE 0 (rd 0 0) (argsE 0 (rd 0 1) argsN))) (cst (.int 1)))) (cst (.int 0)))) pass)
def F_rank_at : Fn := runF 2 b_rank_at
def b_marks_paper : EvS := (seq (ifS (notT (tru (rd 0 1))) (seq (retS (tupE (consA (cst (.str "row")) (consA (bin mulD (tupE (consA (cst (.int 0)) nilA)) (bin ixS (rd 0 0) (cst (.int 0)))) nilA)))) pass) pass) (seq (setS 3 (callE F_lot_that_makes (argsE 0 (compE (comp [5] (seqL (bin ixS (rd 0 0) (cst (.int 1)))) (tName 0 5) yes (callE F_marks_at (argsE 0 (rd 0 5) (argsE 0 (rd 0 1) argsN))))) (argsE 0 (rd 0 2) argsN)))) (seq (ifS (tst (bin notNoneD (rd 0 3) (cst .none))) (seq (retS (tupE (consA (cst (.str "row")) (consA (callE F_sum_of_rows (argsE 0 (bin ixS (rd 0 0) (cst (.int 0))) (argsE 0 (compE (comp [6] (seqL (rd 0 3)) (tName 0 6) yes (bin ixS (bin ixS (rd 0 0) (cst (.int 1))) (rd 0 6)))) argsN))) nilA)))) pass) pass) (seq (setS 4 (bin ixS (compE (comp [7] (seqL (callE F_free_base (argsE 0 (callE F_seen_at (argsE 0 (rd 0 0) (argsE 0 (rd 0 1) argsN))) argsN))) (tName 0 7) (notT (tst (callE F_are_even (argsE 0 (rd 0 7) (argsE 0 (rd 0 2) argsN))))) (rd 0 7))) (cst (.int 0)))) (seq (retS (tupE (consA (cst (.str "none")) (consA (un toTup (compE (comp [8] (rngL (cst (.int 0)) (bin ixS (rd 0 0) (cst (.int 0)))) (tName 0 8) yes (iteE (tst (bin inS (rd 0 8) (rd 0 1))) (bin ixS (rd 0 4) (bin idxD (rd 0 1) (rd 0 8))) (cst (.int 0)))))) nilA)))) pass)))))
def F_marks_paper : Fn := runF 9 b_marks_paper
def b_judge_marks : EvS := (seq (ifS (orT (notT (tst (callE F_is_worded (argsE 0 (rd 0 3) (argsE 0 (tupE (consA (cst (.str "row")) (consA (cst (.str "none")) nilA))) argsN))))) (notT (tst (callE F_is_row (argsE 0 (bin ixS (rd 0 0) (cst (.int 0))) (argsE 0 (bin ixS (rd 0 3) (cst (.int 1))) argsN)))))) (seq (retS (tupE (consA (cst (.str "form")) nilA))) pass) pass) (seq (setS 4 (bin ixS (rd 0 3) (cst (.int 1)))) (seq (ifS (tst (bin eqD (bin ixS (rd 0 3) (cst (.int 0))) (cst (.str "row")))) (seq (setS 5 (compE (comp [7, 8] (zipSL (seqL (rd 0 1)) (seqL (rd 0 2))) (tTup [(tName 0 7), (tName 0 8)]) (tst (bin neD (bin ixS (rd 0 4) (rd 0 7)) (rd 0 8))) (rd 0 7)))) (seq (ifS (tru (rd 0 5)) (seq (retS (tupE (consA (cst (.str "place")) (consA (bin ixS (rd 0 5) (cst (.int 0))) nilA)))) pass) pass) (seq (retS (iteE (tst (callE F_has_row (argsE 0 (rd 0 0) (argsE 0 (rd 0 4) argsN)))) (cst .none) (tupE (consA (cst (.str "out")) nilA)))) pass))) pass) (seq (setS 5 (compE (comp [7] (rngL (cst (.int 0)) (bin ixS (rd 0 0) (cst (.int 0)))) (tName 0 7) (andT (tst (bin ninS (rd 0 7) (rd 0 1))) (tst (bin eqD (bin ixS (rd 0 4) (rd 0 7)) (cst (.int 1))))) (rd 0 7)))) (seq (ifS (tru (rd 0 5)) (seq (retS (tupE (consA (cst (.str "place")) (consA (bin ixS (rd 0 5) (cst (.int 0))) nilA)))) pass) pass) (seq (setS 6 (callE F_first_odd (argsE 0 (bin ixS (rd 0 0) (cst (.int 1))) (argsE 0 (rd 0 4) argsN)))) (seq (ifS (tst (bin notNoneD (rd 0 6) (cst .none))) (seq (retS (tupE (consA (cst (.str "base")) (consA (rd 0 6) nilA)))) pass) pass) (seq (retS (iteE (tst (callE F_are_even (argsE 0 (callE F_marks_at (argsE 0 (rd 0 4) (argsE 0 (rd 0 1) argsN))) (argsE 0 (rd 0 2) argsN)))) (tupE (consA (cst (.str "even")) nilA)) (cst .none))) pass))))))))
def F_judge_marks : Fn := runF 9 b_judge_marks
def b_marks_count : EvS := (seq (ifS (tst (bin eqD (bin ixS (callE F_marks_paper (argsE 0 (rd 0 0) (argsE 0 (rd 0 1) (argsE 0 (rd 0 2) argsN)))) (cst (.int 0))) (cst (.str "none")))) (seq (retS (cst (.int 0))) pass) pass) (seq (retS (bin shlD (cst (.int 1)) (bin subD (un lenD (bin ixS (rd 0 0) (cst (.int 1)))) (callE F_rank_at (argsE 0 (rd 0 0) (argsE 0 (rd 0 1) argsN)))))) pass))
def F_marks_count : Fn := runF 3 b_marks_count
def b__law_pick : EvS := (seq (whl (andT (tst (bin gtD (rd 0 1) (cst (.int 1)))) (andT (tst (bin ltD (srcG .left 0) (cst (.int 2)))) (tst (bin gtD (srcLen 0) (cst (.int 0)))))) (seq (srcPop .left 0) pass) [] 200) (seq (setS 2 (srcG .left 0)) (seq (ifS (orT (tst (bin ltD (rd 0 1) (cst (.int 2)))) (tst (bin gtD (rd 0 2) (cst (.int 1))))) (seq (srcPut .left 0 (bin fdivD (rd 0 2) (bin max2 (cst (.int 1)) (rd 0 1)))) (seq (retS (bin modD (un intD (rd 0 2)) (bin max2 (cst (.int 1)) (rd 0 1)))) pass)) pass) (seq (srcPut .turn 0 (bin addD (srcG .turn 0) (cst (.int 1)))) (seq (setS 3 (bin modD (un intD (bin addD (srcG .mixed 0) (bin mulD (srcG .turn 0) (cst (.int 104729))))) (cst (.int 998244353)))) (seq (setS 3 (bin modD (un intD (bin addD (bin mulD (rd 0 3) (rd 0 3)) (bin mulD (srcG .turn 0) (cst (.int 17))))) (cst (.int 2147483647)))) (seq (srcPut .mixed 0 (rd 0 3)) (seq (retS (bin modD (un intD (bin fdivD (rd 0 3) (cst (.int 16)))) (rd 0 1))) pass))))))))
def F__law_pick : Fn := runF 4 b__law_pick
def b__law_of : EvS := (seq (retS (bin ixS (rd 0 1) (callE F__law_pick (argsS 0 (argsE 0 (un lenD (rd 0 1)) argsN))))) pass)
def F__law_of : Fn := runF 2 b__law_of
def b__law_mixed : EvS := (seq (newS 1 2 (un toLst (rd 1 1))) (seq (retPops [3] (rngL (cst (.int 0)) (un lenD (rd 1 2))) (tName 0 3) 2 (callE F__law_pick (argsS 0 (argsE 0 (un lenD (rd 1 2)) argsN)))) pass))
def F__law_mixed : Fn := runF 4 b__law_mixed
def b__law_sum : EvS := (seq (retS (un toTup (compE (comp [2, 3] (zipL (seqL (rd 0 0)) (seqL (rd 0 1))) (tTup [(tName 0 2), (tName 0 3)]) yes (un intD (bin neD (rd 0 2) (rd 0 3))))))) pass)
def F__law_sum : Fn := runF 4 b__law_sum
def b__law_told : EvS := (seq (parS [2, 3] (wV (un toLst (rd 1 1)) (wV (lstE nilA) argsN))) (seq (forS (rngL (cst (.int 0)) (rd 0 0)) (tName 0 4) (seq (setS 5 (compE (comp [7] (seqL (rd 0 2)) (tName 0 7) (tst (bin eqD (bin ixS (rd 0 7) (rd 0 4)) (cst (.int 1)))) (rd 0 7)))) (seq (ifS (tst (bin neD (rd 0 5) (lstE nilA))) (seq (setS 6 (bin ixS (rd 0 5) (cst (.int 0)))) (seq (setS 3 (bin addD (compE (comp [7] (seqL (rd 0 3)) (tName 0 7) yes (iteE (tst (bin eqD (bin ixS (rd 0 7) (rd 0 4)) (cst (.int 1)))) (callE F__law_sum (argsE 0 (rd 0 7) (argsE 0 (rd 0 6) argsN))) (rd 0 7)))) (lstE (consA (rd 0 6) nilA)))) (seq (setS 2 (compE (comp [7] (seqL (rd 0 2)) (tName 0 7) (tst (bin neD (rd 0 7) (rd 0 6))) (iteE (tst (bin eqD (bin ixS (rd 0 7) (rd 0 4)) (cst (.int 1)))) (callE F__law_sum (argsE 0 (rd 0 7) (argsE 0 (rd 0 6) argsN))) (rd 0 7))))) pass))) pass) pass)) [4, 5, 6]) (seq (retS (un toTup (rd 0 3))) pass)))
def F__law_told : Fn := runF 8 b__law_told
def b__law_row : EvS := (seq (setS 2 (callE F__law_of (argsS 0 (argsE 0 (lstE (consA (cst (.int 1)) (consA (cst (.int 2)) (consA (cst (.int 2)) (consA (cst (.int 3)) nilA))))) argsN)))) (seq (retS (un toTup (compE (comp [3] (rngL (cst (.int 0)) (rd 0 1)) (tName 0 3) yes (un intD (bin ltD (callE F__law_pick (argsS 0 (argsE 0 (cst (.int 4)) argsN))) (rd 0 2))))))) pass))
def F__law_row : Fn := runF 4 b__law_row
def b__law_base : EvS := (seq (newS 1 3 (lstE nilA)) (seq (forS (rngL (cst (.int 0)) (bin mulD (cst (.int 3)) (rd 0 2))) (tName 0 4) (seq (setS 5 (callE F__law_row (argsS 0 (argsE 0 (rd 0 1) argsN)))) (seq (ifS (andT (tst (bin ltD (un lenD (rd 1 3)) (rd 0 2))) (tst (bin gtD (un lenD (callE F__law_told (argsE 0 (rd 0 1) (argsE 1 (bin addD (rd 1 3) (lstE (consA (rd 0 5) nilA))) argsN)))) (un lenD (rd 1 3))))) (seq (dropM (chg 3 oApp (consA (rd 0 5) nilA))) pass) pass) pass)) [4, 5]) (seq (forS (seqL (callE F__law_mixed (argsS 0 (argsE 1 (compE (tR1 (rd 0 1))) argsN)))) (tName 0 6) (seq (setS 5 (un toTup (compE (comp [7] (rngL (cst (.int 0)) (rd 0 1)) (tName 0 7) yes (un intD (bin eqD (rd 0 7) (rd 0 6))))))) (seq (ifS (andT (tst (bin ltD (un lenD (rd 1 3)) (rd 0 2))) (tst (bin gtD (un lenD (callE F__law_told (argsE 0 (rd 0 1) (argsE 1 (bin addD (rd 1 3) (lstE (consA (rd 0 5) nilA))) argsN)))) (un lenD (rd 1 3))))) (seq (dropM (chg 3 oApp (consA (rd 0 5) nilA))) pass) pass) pass)) [5, 6]) (seq (ifS (tst (bin eqD (callE F__law_pick (argsS 0 (argsE 0 (cst (.int 4)) argsN))) (cst (.int 0)))) (seq (newS 1 3 (un toLst (callE F__law_told (argsE 0 (rd 0 1) (argsE 1 (rd 1 3) argsN))))) pass) pass) (seq (retS (un toTup (callE F__law_mixed (argsS 0 (argsE 1 (rd 1 3) argsN))))) pass)))))
def F__law_base : Fn := runF 8 b__law_base
def b__law_code : EvS := (seq (setS 2 (bin addD (cst (.int 1)) (callE F__law_pick (argsS 0 (argsE 0 (rd 0 1) argsN))))) (seq (retS (tupE (consA (rd 0 2) (consA (callE F__law_base (argsS 0 (argsE 0 (rd 0 2) (argsE 0 (callE F__law_of (argsS 0 (argsE 0 (lstE (consA (cst (.int 0)) (consA (rd 0 2) (consA (callE F__law_pick (argsS 0 (argsE 0 (bin addD (rd 0 2) (cst (.int 1))) argsN))) (consA (callE F__law_pick (argsS 0 (argsE 0 (bin addD (rd 0 2) (cst (.int 1))) argsN))) (consA (bin fdivD (rd 0 2) (cst (.int 2))) nilA)))))) argsN))) argsN)))) nilA)))) pass))
def F__law_code : Fn := runF 3 b__law_code
def b__law_some_row : EvS := (seq (setS 2 (bin mulD (tupE (consA (cst (.int 0)) nilA)) (bin ixS (rd 0 1) (cst (.int 0))))) (seq (forS (seqL (bin ixS (rd 0 1) (cst (.int 1)))) (tName 0 3) (seq (setS 2 (iteE (tst (bin eqD (callE F__law_pick (argsS 0 (argsE 0 (cst (.int 2)) argsN))) (cst (.int 0)))) (callE F__law_sum (argsE 0 (rd 0 2) (argsE 0 (rd 0 3) argsN))) (rd 0 2))) pass) [3]) (seq (retS (rd 0 2)) pass)))
def F__law_some_row : Fn := runF 4 b__law_some_row
def b__law_is_odd : EvS := (seq (retS (bin eqD (bin modD (un intD (un sumD (compE (comp [2, 3] (zipL (seqL (rd 0 0)) (seqL (rd 0 1))) (tTup [(tName 0 2), (tName 0 3)]) yes (bin mulD (rd 0 2) (rd 0 3)))))) (cst (.int 2))) (cst (.int 1)))) pass)
def F__law_is_odd : Fn := runF 4 b__law_is_odd
def b__law_leading : EvS := (seq (retS (un toTup (compE (comp [1] (seqL (rd 0 0)) (tName 0 1) yes (bin idxD (rd 0 1) (cst (.int 1))))))) pass)
def F__law_leading : Fn := runF 2 b__law_leading
def b__law_free : EvS := (seq (parS [2, 3] (wV (callE F__law_told (argsE 0 (rd 0 0) (argsE 1 (rd 0 1) argsN))) (wO 1 (lstE nilA) argsN))) (seq (setS 4 (callE F__law_leading (argsE 0 (rd 0 2) argsN))) (seq (forS (seqL (compE (comp [5] (rngL (cst (.int 0)) (rd 0 0)) (tName 0 5) (tst (bin ninS (rd 0 5) (rd 0 4))) (rd 0 5)))) (tName 0 5) (seq (setS 6 (bin addD (lstE (consA (rd 0 5) nilA)) (compE (comp [7] (seqL (rd 0 2)) (tName 0 7) (tst (bin eqD (bin ixS (rd 0 7) (rd 0 5)) (cst (.int 1)))) (bin idxD (rd 0 7) (cst (.int 1))))))) (seq (dropM (chg 3 oApp (consA (un toTup (compE (comp [8] (rngL (cst (.int 0)) (rd 0 0)) (tName 0 8) yes (un intD (bin inS (rd 0 8) (rd 0 6)))))) nilA))) pass)) [5, 6]) (seq (retS (un toTup (rd 1 3))) pass))))
def F__law_free : Fn := runF 9 b__law_free
def b__law_other : EvS := (seq (retS (tupE (consA (bin ixS (rd 0 0) (cst (.int 0))) (consA (callE F__law_told (argsE 0 (bin ixS (rd 0 0) (cst (.int 0))) (argsE 1 (callE F__law_free (argsE 0 (bin ixS (rd 0 0) (cst (.int 0))) (argsE 0 (bin ixS (rd 0 0) (cst (.int 1))) argsN))) argsN))) nilA)))) pass)
def F__law_other : Fn := runF 1 b__law_other
def b__law_has : EvS := (seq (retS (bin eqD (un lenD (callE F__law_told (argsE 0 (bin ixS (rd 0 0) (cst (.int 0))) (argsE 1 (bin addD (un toLst (bin ixS (rd 0 0) (cst (.int 1)))) (lstE (consA (rd 0 1) nilA))) argsN)))) (un lenD (bin ixS (rd 0 0) (cst (.int 1)))))) pass)
def F__law_has : Fn := runF 2 b__law_has
def b__law_number : EvS := (seq (retS (andV (un (isiD .int) (rd 0 0)) (notV (un (isiD .bool) (rd 0 0))))) pass)
def F__law_number : Fn := runF 1 b__law_number
def b__law_are_below : EvS := (seq (retS (andV (un (isiD .tuple) (rd 0 0)) (bin eqD (compE (comp [2] (seqL (rd 0 0)) (tName 0 2) (orT (notT (tst (callE F__law_number (argsE 0 (rd 0 2) argsN)))) (notT (tst (chn leD ltD (cst (.int 0)) (rd 0 2) (rd 0 1))))) (cst (.int 1)))) (lstE nilA)))) pass)
def F__law_are_below : Fn := runF 3 b__law_are_below
def b__law_is_row : EvS := (seq (retS (andV (callE F__law_are_below (argsE 0 (rd 0 1) (argsE 0 (cst (.int 2)) argsN))) (bin eqD (un lenD (rd 0 1)) (rd 0 0)))) pass)
def F__law_is_row : Fn := runF 2 b__law_is_row
def b__law_bent (self : Fn) : EvS := (seq (setS 2 (lstE (consA (cst .none) (consA (cst (.int 0)) (consA (cst (.int 1)) (consA (cst (.int 2)) (consA (cst (.bool true)) (consA (un negD (cst (.int 1))) (consA (cst (.int 9)) (consA (cst (.str "a")) (consA (cst (.str "in")) (consA (cst (.str "out")) (consA (cst (.str "row")) (consA (cst (.str "none")) (consA (tupE nilA) (consA (tupE (consA (cst (.int 0)) nilA)) (consA (tupE (consA (cst (.int 1)) (consA (cst (.int 0)) nilA))) (consA (tupE (consA (cst (.int 0)) (consA (cst (.int 1)) nilA))) (consA (lstE nilA) (consA (cst (.dict [])) (consA (tupE (consA (tupE (consA (cst (.int 0)) (consA (cst (.int 1)) nilA))) nilA)) nilA))))))))))))))))))))) (seq (ifS (orT (notT (tst (un (isiD .tuple) (rd 0 1)))) (orT (tst (bin eqD (rd 0 1) (tupE nilA))) (tst (bin eqD (callE F__law_pick (argsS 0 (argsE 0 (cst (.int 4)) argsN))) (cst (.int 0)))))) (seq (setS 3 (lstE (consA (callE F__law_of (argsS 0 (argsE 0 (rd 0 2) argsN))) nilA))) (seq (ifS (tst (un (isiD .tuple) (rd 0 1))) (seq (setS 3 (bin addD (rd 0 3) (lstE (consA (sli (rd 0 1) (part (cst (.int 1))) noPart) (consA (sli (rd 0 1) noPart (part (un negD (cst (.int 1))))) (consA (bin addD (rd 0 1) (sli (rd 0 1) noPart (part (cst (.int 1))))) (consA (un toLst (rd 0 1)) (consA (un revTD (rd 0 1)) (consA (bin addD (rd 0 1) (tupE (consA (cst (.int 0)) nilA))) nilA))))))))) pass) pass) (seq (retS (callE F__law_of (argsS 0 (argsE 0 (rd 0 3) argsN)))) pass))) pass) (seq (parS [4, 5] (wV (callE F__law_pick (argsS 0 (argsE 0 (un lenD (rd 0 1)) argsN))) (wV (callE F__law_pick (argsS 0 (argsE 0 (cst (.int 6)) argsN))) argsN))) (seq (ifS (andT (tst (bin ltD (rd 0 5) (cst (.int 2)))) (tst (callE F__law_number (argsE 0 (bin ixS (rd 0 1) (rd 0 4)) argsN)))) (seq (retS (bin addD (bin addD (sli (rd 0 1) noPart (part (rd 0 4))) (tupE (consA (callE F__law_of (argsS 0 (argsE 0 (lstE (consA (bin subD (cst (.int 1)) (bin ixS (rd 0 1) (rd 0 4))) (consA (bin addD (bin ixS (rd 0 1) (rd 0 4)) (cst (.int 1))) (consA (bin subD (bin ixS (rd 0 1) (rd 0 4)) (cst (.int 1))) nilA)))) argsN))) nilA))) (sli (rd 0 1) (part (bin addD (rd 0 4) (cst (.int 1)))) noPart))) pass) pass) (seq (ifS (tst (bin eqD (rd 0 5) (cst (.int 2)))) (seq (retS (bin addD (sli (rd 0 1) noPart (part (rd 0 4))) (sli (rd 0 1) (part (bin addD (rd 0 4) (cst (.int 1)))) noPart))) pass) pass) (seq (retS (bin addD (bin addD (sli (rd 0 1) noPart (part (rd 0 4))) (tupE (consA (callE self (argsS 0 (argsE 0 (bin ixS (rd 0 1) (rd 0 4)) argsN))) nilA))) (sli (rd 0 1) (part (bin addD (rd 0 4) (cst (.int 1)))) noPart))) pass))))))
def F__law_bent : Nat → Fn
  | 0 => fun _ => stop
  | k + 1 => runF 6 (b__law_bent (F__law_bent k))
def b__law_places : EvS := (seq (setS 2 (un toTup (compE (comp [3] (rngL (cst (.int 0)) (rd 0 1)) (tName 0 3) (tst (bin eqD (callE F__law_pick (argsS 0 (argsE 0 (cst (.int 2)) argsN))) (cst (.int 0)))) (rd 0 3))))) (seq (retS (iteE (tst (bin neD (rd 0 2) (tupE nilA))) (rd 0 2) (tupE (consA (callE F__law_pick (argsS 0 (argsE 0 (rd 0 1) argsN))) nilA)))) pass))
def F__law_places : Fn := runF 4 b__law_places
def b__law_at : EvS := (seq (retS (un toTup (compE (comp [2] (seqL (rd 0 1)) (tName 0 2) yes (bin ixS (rd 0 0) (rd 0 2)))))) pass)
def F__law_at : Fn := runF 3 b__law_at
def b__law_seen : EvS := (seq (retS (tupE (consA (un lenD (rd 0 1)) (consA (callE F__law_told (argsE 0 (un lenD (rd 0 1)) (argsE 1 (compE (comp [2] (seqL (bin ixS (rd 0 0) (cst (.int 1)))) (tName 0 2) yes (callE F__law_at (argsE 0 (rd 0 2) (argsE 0 (rd 0 1) argsN))))) argsN))) nilA)))) pass)
def F__law_seen : Fn := runF 3 b__law_seen
def b__law_fault : EvS := (seq (tgS (tTup [(tName 0 4), (tName 0 5)]) (rd 0 0)) (seq (ifS (orT (notT (tst (un (isiD .tuple) (rd 0 3)))) (orT (tst (bin neD (un lenD (rd 0 3)) (cst (.int 2)))) (orT (notT (tst (un (isiD .str) (bin ixS (rd 0 3) (cst (.int 0)))))) (tst (bin ninS (bin ixS (rd 0 3) (cst (.int 0))) (tupE (consA (cst (.str "row")) (consA (cst (.str "none")) nilA)))))))) (seq (retS (tupE (consA (cst (.str "form")) nilA))) pass) pass) (seq (ifS (notT (tst (callE F__law_is_row (argsE 0 (rd 0 4) (argsE 0 (bin ixS (rd 0 3) (cst (.int 1))) argsN))))) (seq (retS (tupE (consA (cst (.str "form")) nilA))) pass) pass) (seq (ifS (tst (bin eqD (bin ixS (rd 0 3) (cst (.int 0))) (cst (.str "row")))) (seq (setS 6 (compE (comp [7, 8] (zipL (seqL (rd 0 1)) (seqL (rd 0 2))) (tTup [(tName 0 7), (tName 0 8)]) (tst (bin neD (bin ixS (bin ixS (rd 0 3) (cst (.int 1))) (rd 0 7)) (rd 0 8))) (rd 0 7)))) (seq (retS (iteE (tst (bin neD (rd 0 6) (lstE nilA))) (tupE (consA (cst (.str "place")) (consA (bin ixS (rd 0 6) (cst (.int 0))) nilA))) (iteE (tst (callE F__law_has (argsE 0 (rd 0 0) (argsE 0 (bin ixS (rd 0 3) (cst (.int 1))) argsN)))) (cst .none) (tupE (consA (cst (.str "out")) nilA))))) pass)) pass) (seq (setS 6 (compE (comp [7] (rngL (cst (.int 0)) (rd 0 4)) (tName 0 7) (andT (tst (bin ninS (rd 0 7) (rd 0 1))) (tst (bin eqD (bin ixS (bin ixS (rd 0 3) (cst (.int 1))) (rd 0 7)) (cst (.int 1))))) (rd 0 7)))) (seq (ifS (tst (bin neD (rd 0 6) (lstE nilA))) (seq (retS (tupE (consA (cst (.str "place")) (consA (bin ixS (rd 0 6) (cst (.int 0))) nilA)))) pass) pass) (seq (setS 6 (compE (comp [9, 10] (enumL (seqL (rd 0 5))) (tTup [(tName 0 9), (tName 0 10)]) (tst (callE F__law_is_odd (argsE 0 (rd 0 10) (argsE 0 (bin ixS (rd 0 3) (cst (.int 1))) argsN)))) (rd 0 9)))) (seq (ifS (tst (bin neD (rd 0 6) (lstE nilA))) (seq (retS (tupE (consA (cst (.str "base")) (consA (bin ixS (rd 0 6) (cst (.int 0))) nilA)))) pass) pass) (seq (retS (iteE (tst (bin eqD (bin modD (un intD (un sumD (compE (comp [7, 8] (zipL (seqL (rd 0 1)) (seqL (rd 0 2))) (tTup [(tName 0 7), (tName 0 8)]) yes (bin mulD (bin ixS (bin ixS (rd 0 3) (cst (.int 1))) (rd 0 7)) (rd 0 8)))))) (cst (.int 2))) (cst (.int 1)))) (cst .none) (tupE (consA (cst (.str "even")) nilA)))) pass)))))))))
def F__law_fault : Fn := runF 11 b__law_fault
def b_law : EvS := (seq (forS (rngL (cst (.int 0)) (cst (.int 5))) (tName 0 2) (seq (setS 3 (callE F__law_code (argsS 1 (argsE 0 (bin ixS (lstE (consA (cst (.int 4)) (consA (cst (.int 8)) (consA (cst (.int 16)) (consA (cst (.int 12)) (consA (cst (.int 16)) nilA)))))) (rd 0 2)) argsN)))) (seq (parS [4, 5, 6] (wV (bin ixS (rd 0 3) (cst (.int 0))) (wV (un reprD (rd 0 3)) (wV (callE F__law_some_row (argsS 1 (argsE 0 (rd 0 3) argsN))) argsN)))) (seq (setS 7 (iteE (tst (bin eqD (callE F__law_pick (argsS 1 (argsE 0 (cst (.int 9)) argsN))) (cst (.int 0)))) (tupE nilA) (callE F__law_places (argsS 1 (argsE 0 (rd 0 4) argsN))))) (seq (setS 8 (callE F__law_at (argsE 0 (iteE (tst (bin eqD (callE F__law_pick (argsS 1 (argsE 0 (cst (.int 2)) argsN))) (cst (.int 0)))) (rd 0 6) (callE F__law_row (argsS 1 (argsE 0 (rd 0 4) argsN)))) (argsE 0 (rd 0 7) argsN)))) (seq (setS 9 (iteE (tst (bin neD (rd 0 7) (tupE nilA))) (callE F__law_seen (argsE 0 (rd 0 3) (argsE 0 (rd 0 7) argsN))) (tupE (consA (cst (.int 0)) (consA (tupE nilA) nilA))))) (seq (setS 10 (orV (bin eqD (rd 0 7) (tupE nilA)) (callE F__law_has (argsE 0 (rd 0 9) (argsE 0 (rd 0 8) argsN))))) (seq (setS 11 (callE F_marks_paper (argsE 0 (rd 0 3) (argsE 0 (rd 0 7) (argsE 0 (rd 0 8) argsN))))) (seq (ifS (orT (tst (bin notNoneD (callE F__law_fault (argsE 0 (rd 0 3) (argsE 0 (rd 0 7) (argsE 0 (rd 0 8) (argsE 0 (rd 0 11) argsN))))) (cst .none))) (tst (bin neD (bin ixS (rd 0 11) (cst (.int 0))) (bin ixS (lstE (consA (cst (.str "none")) (consA (cst (.str "row")) nilA))) (un intD (rd 0 10)))))) (seq (retS (cst (.bool false))) pass) pass) (seq (setS 12 (cst (.int 1))) (seq (forS (rngL (cst (.int 0)) (bin subD (un lenD (bin ixS (rd 0 3) (cst (.int 1)))) (un lenD (bin ixS (rd 0 9) (cst (.int 1)))))) (tName 0 13) (seq (setS 12 (bin mulD (rd 0 12) (cst (.int 2)))) pass) [13]) (seq (ifS (orT (tst (bin neD (un reprD (callE F_marks_count (argsE 0 (rd 0 3) (argsE 0 (rd 0 7) (argsE 0 (rd 0 8) argsN))))) (un reprD (iteE (tru (rd 0 10)) (rd 0 12) (cst (.int 0)))))) (tst (bin neD (un reprD (callE F_marks_paper (argsE 0 (rd 0 3) (argsE 0 (rd 0 7) (argsE 0 (rd 0 8) argsN))))) (un reprD (rd 0 11))))) (seq (retS (cst (.bool false))) pass) pass) (seq (setS 14 (lstE (consA (rd 0 11) (consA (tupE (consA (cst (.str "row")) (consA (rd 0 6) nilA))) (consA (tupE (consA (cst (.str "none")) (consA (callE F__law_some_row (argsS 1 (argsE 0 (callE F__law_other (argsE 0 (rd 0 3) argsN)) argsN))) nilA))) (consA (tupE (consA (cst (.str "none")) (consA (callE F__law_row (argsS 1 (argsE 0 (rd 0 4) argsN))) nilA))) (consA (tupE (consA (cst (.str "row")) (consA (callE F__law_row (argsS 1 (argsE 0 (rd 0 4) argsN))) nilA))) nilA))))))) (seq (setS 15 (bin addD (bin addD (rd 0 14) (compE (comp [13] (rngL (cst (.int 0)) (cst (.int 8))) (tName 0 13) yes (callE (F__law_bent 8) (argsS 1 (argsE 0 (callE F__law_of (argsS 1 (argsE 0 (bin addD (rd 0 14) (bin mulD (lstE (consA (rd 0 11) nilA)) (cst (.int 4)))) argsN))) argsN)))))) (lstE (consA (cst .none) (consA (tupE nilA) (consA (bin ixS (rd 0 11) (cst (.int 1))) (consA (cst (.str "row")) (consA (un toLst (rd 0 11)) nilA)))))))) (seq (forS (seqL (bin addD (rd 0 15) (lstE (consA (callE (F__law_bent 8) (argsS 1 (argsE 0 (callE (F__law_bent 8) (argsS 1 (argsE 0 (rd 0 11) argsN))) argsN))) nilA)))) (tName 0 16) (seq (setS 17 (un reprD (rd 0 16))) (seq (ifS (orT (tst (bin neD (un reprD (callE F_judge_marks (argsE 0 (rd 0 3) (argsE 0 (rd 0 7) (argsE 0 (rd 0 8) (argsE 0 (rd 0 16) argsN)))))) (un reprD (callE F__law_fault (argsE 0 (rd 0 3) (argsE 0 (rd 0 7) (argsE 0 (rd 0 8) (argsE 0 (rd 0 16) argsN)))))))) (tst (bin neD (un reprD (rd 0 16)) (rd 0 17)))) (seq (retS (cst (.bool false))) pass) pass) pass)) [16, 17]) (seq (ifS (tst (bin neD (un reprD (rd 0 3)) (rd 0 5))) (seq (retS (cst (.bool false))) pass) pass) pass))))))))))))))) [2, 3, 4, 5, 6, 7, 8, 9, 10, 11, 12, 13, 14, 15, 16, 17]) (seq (setS 3 (tupE (consA (cst (.int 4)) (consA (tupE (consA (tupE (consA (cst (.int 1)) (consA (cst (.int 1)) (consA (cst (.int 0)) (consA (cst (.int 0)) nilA))))) (consA (tupE (consA (cst (.int 0)) (consA (cst (.int 1)) (consA (cst (.int 1)) (consA (cst (.int 0)) nilA))))) nilA))) nilA)))) (seq (setS 11 (lstE (consA (callE F_marks_count (argsE 0 (rd 0 3) (argsE 0 (tupE (consA (cst (.int 0)) (consA (cst (.int 1)) nilA))) (argsE 0 (tupE (consA (cst (.int 1)) (consA (cst (.int 1)) nilA))) argsN)))) (consA (callE F_marks_count (argsE 0 (rd 0 3) (argsE 0 (tupE (consA (cst (.int 3)) nilA)) (argsE 0 (tupE (consA (cst (.int 1)) nilA)) argsN)))) (consA (callE F_judge_marks (argsE 0 (rd 0 3) (argsE 0 (tupE (consA (cst (.int 3)) nilA)) (argsE 0 (tupE (consA (cst (.int 1)) nilA)) (argsE 0 (tupE (consA (cst (.str "none")) (consA (tupE (consA (cst (.int 0)) (consA (cst (.int 0)) (consA (cst (.int 0)) (consA (cst (.int 1)) nilA))))) nilA))) argsN))))) nilA))))) (seq (retS (bin eqD (un reprD (rd 0 11)) (un reprD (lstE (consA (cst (.int 1)) (consA (cst (.int 0)) (consA (cst .none) nilA))))))) pass))))
section
variable {P : Program} {w : World} {K : PySem.W.Frag} {mg : Str → Option Value} {base : PySem.Heap}
theorem ok_sum_of (T : Txt K mg) : FnOk P w K mg base CX0 1 T.a_sum_of T.d_sum_of ["one", "other"] (spF F_sum_of 2) := by
  refine fn_ev (k := 0) T.f_sum_of sc_sum_of fun cdv A outer s H E hr => ?_
  have S := sc_sum_of
  have hu := hr.units
  have hu5 := u65 hr
  exact (show SB _ _ b_sum_of from (sb_cons (ss_ret (se_t1 (m := 1) c_tup (by rfl) T.n_tuple bt_tuple (SE.up (n := 0) (SF.se (sf_lc (own := [("k", 2), ("mark", 3)]) rfl S.nd (si_enum (bb := false) (n := 0) (by rfl) T.n_enumerate (SE.sv (se_rd (pv 0)))) (blkOk_by (show blkC ["one", "other", "k", "mark"] (defScope s_sum_of) _ [("k", 2), ("mark", 3)] = true from by decide +kernel)) (fun _ _ _ _ _ => (gt_tup rfl (gts_cons (gt_name S.nd rfl (Or.inl rfl)) (gts_cons (gt_name S.nd rfl (Or.inl rfl)) gts_nil)))) (fun _ _ _ _ _ => sts_nil) (fun _ _ _ _ _ => (se_t1 (m := 0) c_int (by rfl) T.n_int bt_int (se_cmp (m := 0) (o_ne hu) (se_rd (pv 3)) (se_ix (m := 0) (SE.up (n := 0) (se_rd (pv 1)) (by decide)) (se_rd (pv 2))) rfl))) (by decide))) (by decide)))) sb_nil))
theorem ok_are_even (T : Txt K mg) : FnOk P w K mg base CX0 1 T.a_are_even T.d_are_even ["one", "other"] (spF F_are_even 2) := by
  refine fn_ev (k := 0) T.f_are_even sc_are_even fun cdv A outer s H E hr => ?_
  have S := sc_are_even
  have hu := hr.units
  have hu5 := u65 hr
  exact (show SB _ _ b_are_even from (sb_cons (ss_ret (se_cmp (m := 0) (o_eq hu) (se_bin (m := 0) o_mod (se_b1 (m := 0) (c_sum rfl) (by rfl) T.n_sum bt_sum (SF.se (sf_lc (own := [("a", 2), ("b", 3)]) rfl S.nd (si_zipS (bb := false) (n := 0) (by rfl) T.n_zip (SE.sv (se_rd (pv 0))) (SE.sv (se_rd (pv 1)))) (blkOk_by (show blkC ["one", "other", "a", "b"] (defScope s_are_even) _ [("a", 2), ("b", 3)] = true from by decide +kernel)) (fun _ _ _ _ _ => (gt_tup rfl (gts_cons (gt_name S.nd rfl (Or.inl rfl)) (gts_cons (gt_name S.nd rfl (Or.inl rfl)) gts_nil)))) (fun _ _ _ _ _ => sts_nil) (fun _ _ _ _ _ => (se_bin (m := 1) o_mul (SE.up (n := 0) (se_rd (pv 2)) (by decide)) (SE.up (n := 0) (se_rd (pv 3)) (by decide)))) (by decide)))) se_int) se_int rfl)) sb_nil))
theorem ok_first_one (T : Txt K mg) : FnOk P w K mg base CX0 1 T.a_first_one T.d_first_one ["row"] (spF F_first_one 1) := by
  refine fn_ev (k := 0) T.f_first_one sc_first_one fun cdv A outer s H E hr => ?_
  have S := sc_first_one
  have hu := hr.units
  have hu5 := u65 hr
  exact (show SB _ _ b_first_one from (sb_cons (ss_ret (se_idx (m := 0) (es := []) (SE.up (n := 0) (se_rd (pv 0)) (by decide)) se_int)) sb_nil))
theorem ok_told_rows (T : Txt K mg) : FnOk P w K mg base CX0 2 T.a_told_rows T.d_told_rows ["rows"] (spF F_told_rows 1) := by
  refine fn_ev (k := 1) T.f_told_rows sc_told_rows fun cdv A outer s H E hr => ?_
  have S := sc_told_rows
  have hu := hr.units
  have hu5 := u65 hr
  exact (show SB _ _ b_told_rows from (sb_cons (ss_set S.nd rfl (Or.inl rfl) (SF.se (sf_lst sl_nil))) (sb_cons (ss_for .never rfl (si_seq (bb := true) (n := 0) (sv_rd (pv 0))) (gt_name S.nd rfl (Or.inl rfl)) (sb_cons (ss_set S.nd rfl (Or.inr rfl) (se_rd (pv 2))) (sb_cons (ss_for .never rfl (si_seq (bb := true) (n := 0) (sv_rd (pv 1))) (gt_name S.nd rfl (Or.inl rfl)) (sb_cons (ss_set S.nd rfl (Or.inr rfl) (se_if (st_cmp (m := 0) (o_eq hu) (se_ix (m := 0) (SE.up (n := 0) (se_rd (pv 3)) (by decide)) (se_call (ok_first_one T) (hr.mono (by omega)) (by rfl) T.m_first_one T.f_first_one.kp T.b_first_one (sa_vw (se_rd (pv 4)) sa_nil))) se_int rfl) (se_call (ok_sum_of T) (hr.mono (by omega)) (by rfl) T.m_sum_of T.f_sum_of.kp T.b_sum_of (sa_vw (se_rd (pv 3)) (sa_vw (se_rd (pv 4)) sa_nil))) (se_rd (pv 3)))) sb_nil)) (sb_cons (ss_if (st_cmp (m := 0) (o_in hu5) se_int (se_rd (pv 3)) rfl) (sb_cons (ss_set S.nd rfl (Or.inr rfl) (se_call (ok_first_one T) (hr.mono (by omega)) (by rfl) T.m_first_one T.f_first_one.kp T.b_first_one (sa_vw (se_rd (pv 3)) sa_nil))) (sb_cons (ss_set S.nd rfl (Or.inl rfl) (se_bin (m := 1) o_add (SE.up (n := 0) (SF.se (sf_lc (own := [("one", 4)]) rfl S.nd (si_seq (bb := false) (n := 0) (SE.sv (se_rd (pv 1)))) (blkOk_by (show blkC ["rows", "found", "row", "here", "one", "place"] (defScope s_told_rows) _ [("one", 4)] = true from by decide +kernel)) (fun _ _ _ _ _ => (gt_name S.nd rfl (Or.inl rfl))) (fun _ _ _ _ _ => sts_nil) (fun _ _ _ _ _ => (se_if (st_cmp (m := 0) (o_eq hu) (se_ix (m := 0) (SE.up (n := 0) (se_rd (pv 4)) (by decide)) (se_rd (pv 5))) se_int rfl) (se_call (ok_sum_of T) (hr.mono (by omega)) (by rfl) T.m_sum_of T.f_sum_of.kp T.b_sum_of (sa_vw (se_rd (pv 4)) (sa_vw (se_rd (pv 3)) sa_nil))) (se_rd (pv 4)))) (by decide))) (by decide)) (SE.up (n := 0) (SF.se (sf_lst (sl_cons (se_rd (pv 3)) sl_nil))) (by decide)))) sb_nil)) sb_nil) sb_nil)))) (sb_cons (ss_ret (se_t1 (m := 1) c_tup (by rfl) T.n_tuple bt_tuple (SE.up (n := 0) (SF.se (sf_sortTR (by rfl) T.n_sorted (SE.up (n := 0) (se_rd (pv 1)) (by decide)))) (by decide)))) sb_nil))))
theorem ok_sum_of_rows (T : Txt K mg) : FnOk P w K mg base CX0 2 T.a_sum_of_rows T.d_sum_of_rows ["n", "rows"] (spF F_sum_of_rows 2) := by
  refine fn_ev (k := 1) T.f_sum_of_rows sc_sum_of_rows fun cdv A outer s H E hr => ?_
  have S := sc_sum_of_rows
  have hu := hr.units
  have hu5 := u65 hr
  exact (show SB _ _ b_sum_of_rows from (sb_cons (ss_set S.nd rfl (Or.inl rfl) (se_bin (m := 1) o_mul (se_tup (sl_cons se_int sl_nil)) (SE.up (n := 0) (se_rd (pv 0)) (by decide)))) (sb_cons (ss_for .never rfl (si_seq (bb := true) (n := 0) (sv_rd (pv 1))) (gt_name S.nd rfl (Or.inl rfl)) (sb_cons (ss_set S.nd rfl (Or.inl rfl) (se_call (ok_sum_of T) (hr.mono (by omega)) (by rfl) T.m_sum_of T.f_sum_of.kp T.b_sum_of (sa_vw (se_rd (pv 2)) (sa_vw (se_rd (pv 3)) sa_nil)))) sb_nil)) (sb_cons (ss_ret (se_rd (pv 2))) sb_nil))))
theorem ok_free_base (T : Txt K mg) : FnOk P w K mg base CX0 3 T.a_free_base T.d_free_base ["code"] (spF F_free_base 1) := by
  refine fn_ev (k := 2) T.f_free_base sc_free_base fun cdv A outer s H E hr => ?_
  have S := sc_free_base
  have hu := hr.units
  have hu5 := u65 hr
  exact (show SB _ _ b_free_base from (sb_cons (ss_par2 rfl S.nd rfl rfl (by decide) rfl rfl (sw_vw (se_ix (m := 0) (SE.up (n := 0) (se_rd (pv 0)) (by decide)) se_int) (sw_vw (se_call (ok_told_rows T) (hr.mono (by omega)) (by rfl) T.m_told_rows T.f_told_rows.kp T.b_told_rows (sa_vw (se_ix (m := 0) (SE.up (n := 0) (se_rd (pv 0)) (by decide)) se_int) sa_nil)) sw_nil)) rfl) (sb_cons (ss_par2 rfl S.nd rfl rfl (by decide) rfl rfl (sw_vw (SF.se (sf_lc (own := [("row", 7)]) rfl S.nd (si_seq (bb := false) (n := 0) (SE.sv (se_rd (pv 2)))) (blkOk_by (show blkC ["code", "n", "base", "leads", "found", "place", "ones", "row", "lead", "p"] (defScope s_free_base) _ [("row", 7)] = true from by decide +kernel)) (fun _ _ _ _ _ => (gt_name S.nd rfl (Or.inl rfl))) (fun _ _ _ _ _ => sts_nil) (fun _ _ _ _ _ => (se_call (ok_first_one T) (hr.mono (by omega)) (by rfl) T.m_first_one T.f_first_one.kp T.b_first_one (sa_vw (se_rd (pv 7)) sa_nil))) (by decide))) (sw_own (sf_lst sl_nil) sw_nil)) rfl) (sb_cons (ss_for .never rfl (si_r1 (bb := true) (n := 0) (m := 0) (by rfl) T.n_range (se_rd (pv 1))) (gt_name S.nd rfl (Or.inr rfl)) (sb_cons (ss_if (st_cmp (m := 0) (o_nin hu5) (se_rd (pv 5)) (se_rd (pv 3)) rfl) (sb_cons (ss_set S.nd rfl (Or.inr rfl) (se_bin (m := 1) o_add (SE.up (n := 0) (SF.se (sf_lst (sl_cons (se_rd (pv 5)) sl_nil))) (by decide)) (SE.up (n := 0) (SF.se (sf_lc (own := [("lead", 8), ("row", 7)]) rfl S.nd (si_zipS (bb := false) (n := 0) (by rfl) T.n_zip (SE.sv (se_rd (pv 3))) (SE.sv (se_rd (pv 2)))) (blkOk_by (show blkC ["code", "n", "base", "leads", "found", "place", "ones", "row", "lead", "p"] (defScope s_free_base) _ [("lead", 8), ("row", 7)] = true from by decide +kernel)) (fun _ _ _ _ _ => (gt_tup rfl (gts_cons (gt_name S.nd rfl (Or.inl rfl)) (gts_cons (gt_name S.nd rfl (Or.inl rfl)) gts_nil)))) (fun _ _ _ _ _ => (sts_one (st_cmp (m := 0) (o_eq hu) (se_ix (m := 0) (SE.up (n := 0) (se_rd (pv 7)) (by decide)) (se_rd (pv 5))) se_int rfl))) (fun _ _ _ _ _ => (se_rd (pv 8))) (by decide))) (by decide)))) (sb_cons (ss_dropM (sm_app (pv 4) (sl_cons (se_t1 (m := 1) c_tup (by rfl) T.n_tuple bt_tuple (SE.up (n := 0) (SF.se (sf_lc (own := [("p", 9)]) rfl S.nd (si_r1 (bb := false) (n := 0) (m := 0) (by rfl) T.n_range (se_rd (pv 1))) (blkOk_by (show blkC ["code", "n", "base", "leads", "found", "place", "ones", "row", "lead", "p"] (defScope s_free_base) _ [("p", 9)] = true from by decide +kernel)) (fun _ _ _ _ _ => (gt_name S.nd rfl (Or.inl rfl))) (fun _ _ _ _ _ => sts_nil) (fun _ _ _ _ _ => (se_t1 (m := 0) c_int (by rfl) T.n_int bt_int (se_cmp (m := 0) (o_in hu5) (se_rd (pv 9)) (se_rd (pv 6)) rfl))) (by decide))) (by decide))) sl_nil))) sb_nil)) sb_nil) sb_nil)) (sb_cons (ss_ret (se_t1 (m := 1) c_tup (by rfl) T.n_tuple bt_tuple (se_rd (pv 4)))) sb_nil)))))
theorem ok_has_row (T : Txt K mg) : FnOk P w K mg base CX0 4 T.a_has_row T.d_has_row ["code", "row"] (spF F_has_row 2) := by
  refine fn_ev (k := 3) T.f_has_row sc_has_row fun cdv A outer s H E hr => ?_
  have S := sc_has_row
  have hu := hr.units
  have hu5 := u65 hr
  exact (show SB _ _ b_has_row from (sb_cons (ss_ret (se_b1 (m := 0) (c_all rfl) (by rfl) T.n_all bt_all (SF.se (sf_lc (own := [("other", 2)]) rfl S.nd (si_seq (bb := false) (n := 0) (SE.sv (se_call (ok_free_base T) (hr.mono (by omega)) (by rfl) T.m_free_base T.f_free_base.kp T.b_free_base (sa_vw (se_rd (pv 0)) sa_nil)))) (blkOk_by (show blkC ["code", "row", "other"] (defScope s_has_row) _ [("other", 2)] = true from by decide +kernel)) (fun _ _ _ _ _ => (gt_name S.nd rfl (Or.inl rfl))) (fun _ _ _ _ _ => sts_nil) (fun _ _ _ _ _ => (se_call (ok_are_even T) (hr.mono (by omega)) (by rfl) T.m_are_even T.f_are_even.kp T.b_are_even (sa_vw (se_rd (pv 1)) (sa_vw (se_rd (pv 2)) sa_nil)))) (by decide))))) sb_nil))
theorem ok_reduced (T : Txt K mg) : FnOk P w K mg base CX0 2 T.a_reduced T.d_reduced ["pair", "found"] (spF F_reduced 2) := by
  refine fn_ev (k := 1) T.f_reduced sc_reduced fun cdv A outer s H E hr => ?_
  have S := sc_reduced
  have hu := hr.units
  have hu5 := u65 hr
  exact (show SB _ _ b_reduced from (sb_cons (ss_tg (se_rd (pv 0)) (gt_tup rfl (gts_cons (gt_name S.nd rfl (Or.inl rfl)) (gts_cons (gt_name S.nd rfl (Or.inr rfl)) gts_nil)))) (sb_cons (ss_for .never rfl (si_seq (bb := true) (n := 1) (sv_rd (pv 1))) (gt_tup rfl (gts_cons (gt_name S.nd rfl (Or.inl rfl)) (gts_cons (gt_name S.nd rfl (Or.inr rfl)) gts_nil))) (sb_cons (ss_if (st_cmp (m := 0) (o_eq hu) (se_ix (m := 0) (SE.up (n := 0) (se_rd (pv 2)) (by decide)) (se_call (ok_first_one T) (hr.mono (by omega)) (by rfl) T.m_first_one T.f_first_one.kp T.b_first_one (sa_vw (se_rd (pv 4)) sa_nil))) se_int rfl) (sb_cons (ss_set S.nd rfl (Or.inl rfl) (se_call (ok_sum_of T) (hr.mono (by omega)) (by rfl) T.m_sum_of T.f_sum_of.kp T.b_sum_of (sa_vw (se_rd (pv 2)) (sa_vw (se_rd (pv 4)) sa_nil)))) (sb_cons (ss_set S.nd rfl (Or.inr rfl) (se_t1 (m := 1) c_tup (by rfl) T.n_tuple bt_tuple (SE.up (n := 0) (SF.se (sf_sortI (m := 0) (by rfl) T.n_sorted (SF.se (sf_lc (own := [("i", 6)]) rfl S.nd (si_seq (bb := false) (n := 0) (SE.sv (se_tup (sl_star (SE.up (n := 0) (se_rd (pv 3)) (by decide)) (sl_star (SE.up (n := 0) (se_rd (pv 5)) (by decide)) sl_nil))))) (blkOk_by (show blkC ["pair", "found", "row", "numbers", "one", "others", "i"] (defScope s_reduced) _ [("i", 6)] = true from by decide +kernel)) (fun _ _ _ _ _ => (gt_name S.nd rfl (Or.inl rfl))) (fun _ _ _ _ _ => (sts_one (st_cmp (m := 0) (o_ne hu) (se_cmp (m := 0) (o_in hu5) (se_rd (pv 6)) (se_rd (pv 3)) rfl) (se_cmp (m := 0) (o_in hu5) (se_rd (pv 6)) (se_rd (pv 5)) rfl) rfl))) (fun _ _ _ _ _ => (se_rd (pv 6))) (by decide))))) (by decide)))) sb_nil)) sb_nil) sb_nil)) (sb_cons (ss_ret (se_tup (sl_cons (se_rd (pv 2)) (sl_cons (se_rd (pv 3)) sl_nil)))) sb_nil))))
theorem ok_lot_that_makes (T : Txt K mg) : FnOk P w K mg base CX0 3 T.a_lot_that_makes T.d_lot_that_makes ["rows", "row"] (spF F_lot_that_makes 2) := by
  refine fn_ev (k := 2) T.f_lot_that_makes sc_lot_that_makes fun cdv A outer s H E hr => ?_
  have S := sc_lot_that_makes
  have hu := hr.units
  have hu5 := u65 hr
  exact (show SB _ _ b_lot_that_makes from (sb_cons (ss_new S.nd rfl (Or.inl rfl) (sf_lst sl_nil)) (sb_cons (ss_for .never rfl (si_enum (bb := true) (n := 0) (by rfl) T.n_enumerate (sv_rd (pv 0))) (gt_tup rfl (gts_cons (gt_name S.nd rfl (Or.inl rfl)) (gts_cons (gt_name S.nd rfl (Or.inl rfl)) gts_nil))) (sb_cons (ss_set S.nd rfl (Or.inl rfl) (se_call (ok_reduced T) (hr.mono (by omega)) (by rfl) T.m_reduced T.f_reduced.kp T.b_reduced (sa_vw (se_tup (sl_cons (se_rd (pv 4)) (sl_cons (se_tup (sl_cons (se_rd (pv 3)) sl_nil)) sl_nil))) (sa_vw (se_rd (pv 2)) sa_nil)))) (sb_cons (ss_if (st_cmp (m := 0) (o_in hu5) se_int (se_ix (m := 0) (SE.up (n := 0) (se_rd (pv 5)) (by decide)) se_int) rfl) (sb_cons (ss_dropM (sm_app (pv 2) (sl_cons (se_rd (pv 5)) sl_nil))) sb_nil) sb_nil) sb_nil))) (sb_cons (ss_set S.nd rfl (Or.inl rfl) (se_call (ok_reduced T) (hr.mono (by omega)) (by rfl) T.m_reduced T.f_reduced.kp T.b_reduced (sa_vw (se_tup (sl_cons (se_rd (pv 1)) (sl_cons (se_tup sl_nil) sl_nil))) (sa_vw (se_rd (pv 2)) sa_nil)))) (sb_cons (ss_ret (se_if (st_cmp (m := 0) (o_in hu5) se_int (se_ix (m := 0) (SE.up (n := 0) (se_rd (pv 6)) (by decide)) se_int) rfl) se_non (se_ix (m := 0) (SE.up (n := 0) (se_rd (pv 6)) (by decide)) se_int))) sb_nil)))))
theorem ok_is_integer (T : Txt K mg) : FnOk P w K mg base CX0 1 T.a_is_integer T.d_is_integer ["value"] (spF F_is_integer 1) := by
  refine fn_ev (k := 0) T.f_is_integer sc_is_integer fun cdv A outer s H E hr => ?_
  have S := sc_is_integer
  have hu := hr.units
  have hu5 := u65 hr
  exact (show SB _ _ b_is_integer from (sb_cons (ss_ret (se_and (m := 0) (se_isi (m := 0) (k := .int) (by rfl) T.n_isinstance bt_isinstance (se_rd (pv 0)) (by rfl) T.n_int bt_int) (se_and (m := 0) (se_not (m := 0) (se_isi (m := 0) (k := .bool) (by rfl) T.n_isinstance bt_isinstance (se_rd (pv 0)) (by rfl) T.n_bool bt_bool)) (se_one (se_cmp (m := 0) o_ge (se_rd (pv 0)) se_int rfl))))) sb_nil))
theorem ok_is_row (T : Txt K mg) : FnOk P w K mg base CX0 2 T.a_is_row T.d_is_row ["n", "value"] (spF F_is_row 2) := by
  refine fn_ev (k := 1) T.f_is_row sc_is_row fun cdv A outer s H E hr => ?_
  have S := sc_is_row
  have hu := hr.units
  have hu5 := u65 hr
  exact (show SB _ _ b_is_row from (sb_cons (ss_ret (se_and (m := 0) (se_isi (m := 0) (k := .tuple) (by rfl) T.n_isinstance bt_isinstance (se_rd (pv 1)) (by rfl) T.n_tuple bt_tuple) (se_and (m := 0) (se_cmp (m := 0) (o_eq hu) (se_b1 (m := 0) c_len (by rfl) T.n_len bt_len (se_rd (pv 1))) (se_rd (pv 0)) rfl) (se_one (se_b1 (m := 0) (c_all rfl) (by rfl) T.n_all bt_all (SF.se (sf_lc (own := [("mark", 2)]) rfl S.nd (si_seq (bb := false) (n := 0) (SE.sv (se_rd (pv 1)))) (blkOk_by (show blkC ["n", "value", "mark"] (defScope s_is_row) _ [("mark", 2)] = true from by decide +kernel)) (fun _ _ _ _ _ => (gt_name S.nd rfl (Or.inl rfl))) (fun _ _ _ _ _ => sts_nil) (fun _ _ _ _ _ => (se_and (m := 0) (se_call (ok_is_integer T) (hr.mono (by omega)) (by rfl) T.m_is_integer T.f_is_integer.kp T.b_is_integer (sa_vw (se_rd (pv 2)) sa_nil)) (se_one (se_cmp (m := 0) o_lt (se_rd (pv 2)) se_int rfl)))) (by decide)))))))) sb_nil))
theorem ok_is_worded (T : Txt K mg) : FnOk P w K mg base CX0 1 T.a_is_worded T.d_is_worded ["value", "words"] (spF F_is_worded 2) := by
  refine fn_ev (k := 0) T.f_is_worded sc_is_worded fun cdv A outer s H E hr => ?_
  have S := sc_is_worded
  have hu := hr.units
  have hu5 := u65 hr
  exact (show SB _ _ b_is_worded from (sb_cons (ss_ret (se_and (m := 0) (se_isi (m := 0) (k := .tuple) (by rfl) T.n_isinstance bt_isinstance (se_rd (pv 0)) (by rfl) T.n_tuple bt_tuple) (se_and (m := 0) (se_cmp (m := 0) (o_eq hu) (se_b1 (m := 0) c_len (by rfl) T.n_len bt_len (se_rd (pv 0))) se_int rfl) (se_and (m := 0) (se_isi (m := 0) (k := .str) (by rfl) T.n_isinstance bt_isinstance (se_ix (m := 0) (SE.up (n := 0) (se_rd (pv 0)) (by decide)) se_int) (by rfl) T.n_str bt_str) (se_one (se_cmp (m := 0) (o_in hu5) (se_ix (m := 0) (SE.up (n := 0) (se_rd (pv 0)) (by decide)) se_int) (se_rd (pv 1)) rfl)))))) sb_nil))
theorem ok_first_odd (T : Txt K mg) : FnOk P w K mg base CX0 2 T.a_first_odd T.d_first_odd ["base", "row"] (spF F_first_odd 2) := by
  refine fn_ev (k := 1) T.f_first_odd sc_first_odd fun cdv A outer s H E hr => ?_
  have S := sc_first_odd
  have hu := hr.units
  have hu5 := u65 hr
  exact (show SB _ _ b_first_odd from (sb_cons (ss_setLc (own := [("i", 3), ("one", 4)])  rfl S.nd rfl rfl (sw_true rfl rfl rfl (by decide +kernel))  (si_enum (bb := false) (n := 0) (by rfl) T.n_enumerate (SE.sv (se_rd (pv 0)))) (blkOk_by (show blkC ["base", "row", "some", "i", "one"] (defScope s_first_odd) _ [("i", 3), ("one", 4)] = true from by decide +kernel)) (fun _ _ _ _ _ => (gt_tup rfl (gts_cons (gt_name S.nd rfl (Or.inl rfl)) (gts_cons (gt_name S.nd rfl (Or.inl rfl)) gts_nil)))) (fun _ _ _ _ _ => (sts_one (st_not (st_val (m := 0) (se_call (ok_are_even T) (hr.mono (by omega)) (by rfl) T.m_are_even T.f_are_even.kp T.b_are_even (sa_vw (se_rd (pv 4)) (sa_vw (se_rd (pv 1)) sa_nil))))))) (fun _ _ _ _ _ => (se_rd (pv 3))) (by decide)) (sb_cons (ss_ret (se_if (st_tru (m := 0) (se_rd (pv 2))) (se_ix (m := 0) (SE.up (n := 0) (se_rd (pv 2)) (by decide)) se_int) se_non)) sb_nil)))
theorem ok_marks_at (T : Txt K mg) : FnOk P w K mg base CX0 1 T.a_marks_at T.d_marks_at ["row", "places"] (spF F_marks_at 2) := by
  refine fn_ev (k := 0) T.f_marks_at sc_marks_at fun cdv A outer s H E hr => ?_
  have S := sc_marks_at
  have hu := hr.units
  have hu5 := u65 hr
  exact (show SB _ _ b_marks_at from (sb_cons (ss_ret (se_t1 (m := 1) c_tup (by rfl) T.n_tuple bt_tuple (SE.up (n := 0) (SF.se (sf_lc (own := [("place", 2)]) rfl S.nd (si_seq (bb := false) (n := 0) (SE.sv (se_rd (pv 1)))) (blkOk_by (show blkC ["row", "places", "place"] (defScope s_marks_at) _ [("place", 2)] = true from by decide +kernel)) (fun _ _ _ _ _ => (gt_name S.nd rfl (Or.inl rfl))) (fun _ _ _ _ _ => sts_nil) (fun _ _ _ _ _ => (se_ix (m := 0) (SE.up (n := 0) (se_rd (pv 0)) (by decide)) (se_rd (pv 2)))) (by decide))) (by decide)))) sb_nil))
theorem ok_seen_at (T : Txt K mg) : FnOk P w K mg base CX0 3 T.a_seen_at T.d_seen_at ["code", "places"] (spF F_seen_at 2) := by
  refine fn_ev (k := 2) T.f_seen_at sc_seen_at fun cdv A outer s H E hr => ?_
  have S := sc_seen_at
  have hu := hr.units
  have hu5 := u65 hr
  exact (show SB _ _ b_seen_at from (sb_cons (ss_ret (se_tup (sl_cons (se_b1 (m := 0) c_len (by rfl) T.n_len bt_len (se_rd (pv 1))) (sl_cons (se_call (ok_told_rows T) (hr.mono (by omega)) (by rfl) T.m_told_rows T.f_told_rows.kp T.b_told_rows (sa_vw (SF.se (sf_lc (own := [("row", 2)]) rfl S.nd (si_seq (bb := false) (n := 0) (SE.sv (se_ix (m := 0) (SE.up (n := 0) (se_rd (pv 0)) (by decide)) se_int))) (blkOk_by (show blkC ["code", "places", "row"] (defScope s_seen_at) _ [("row", 2)] = true from by decide +kernel)) (fun _ _ _ _ _ => (gt_name S.nd rfl (Or.inl rfl))) (fun _ _ _ _ _ => sts_nil) (fun _ _ _ _ _ => (se_call (ok_marks_at T) (hr.mono (by omega)) (by rfl) T.m_marks_at T.f_marks_at.kp T.b_marks_at (sa_vw (se_rd (pv 2)) (sa_vw (se_rd (pv 1)) sa_nil)))) (by decide))) sa_nil)) sl_nil)))) sb_nil))
theorem ok_rank_at (T : Txt K mg) : FnOk P w K mg base CX0 4 T.a_rank_at T.d_rank_at ["code", "places"] (spF F_rank_at 2) := by
  refine fn_ev (k := 3) T.f_rank_at sc_rank_at fun cdv A outer s H E hr => ?_
  have S := sc_rank_at
  have hu := hr.units
  have hu5 := u65 hr
  exact (show SB _ _ b_rank_at from (sb_cons (ss_ret (se_if (st_tru (m := 0) (se_rd (pv 1))) (se_b1 (m := 0) c_len (by rfl) T.n_len bt_len (se_ix (m := 0) (se_call (ok_seen_at T) (hr.mono (by omega)) (by rfl) T.m_seen_at T.f_seen_at.kp T.b_seen_at (sa_vw (se_rd (pv 0)) (sa_vw (se_rd (pv 1)) sa_nil))) se_int)) se_int)) sb_nil))
theorem ok_marks_paper (T : Txt K mg) : FnOk P w K mg base CX0 4 T.a_marks_paper T.d_marks_paper ["code", "places", "marks"] (spF F_marks_paper 3) := by
  refine fn_ev (k := 3) T.f_marks_paper sc_marks_paper fun cdv A outer s H E hr => ?_
  have S := sc_marks_paper
  have hu := hr.units
  have hu5 := u65 hr
  exact (show SB _ _ b_marks_paper from (sb_cons (ss_if (st_not (st_tru (m := 0) (se_rd (pv 1)))) (sb_cons (ss_ret (se_tup (sl_cons se_str (sl_cons (se_bin (m := 1) o_mul (se_tup (sl_cons se_int sl_nil)) (SE.up (n := 0) (se_ix (m := 0) (SE.up (n := 0) (se_rd (pv 0)) (by decide)) se_int) (by decide))) sl_nil)))) sb_nil) sb_nil) (sb_cons (ss_set S.nd rfl (Or.inl rfl) (se_call (ok_lot_that_makes T) (hr.mono (by omega)) (by rfl) T.m_lot_that_makes T.f_lot_that_makes.kp T.b_lot_that_makes (sa_vw (SF.se (sf_lc (own := [("row", 5)]) rfl S.nd (si_seq (bb := false) (n := 0) (SE.sv (se_ix (m := 0) (SE.up (n := 0) (se_rd (pv 0)) (by decide)) se_int))) (blkOk_by (show blkC ["code", "places", "marks", "lot", "other", "row", "i", "late", "place"] (defScope s_marks_paper) _ [("row", 5)] = true from by decide +kernel)) (fun _ _ _ _ _ => (gt_name S.nd rfl (Or.inl rfl))) (fun _ _ _ _ _ => sts_nil) (fun _ _ _ _ _ => (se_call (ok_marks_at T) (hr.mono (by omega)) (by rfl) T.m_marks_at T.f_marks_at.kp T.b_marks_at (sa_vw (se_rd (pv 5)) (sa_vw (se_rd (pv 1)) sa_nil)))) (by decide))) (sa_vw (se_rd (pv 2)) sa_nil)))) (sb_cons (ss_if (st_cmp (m := 0) o_notN (se_rd (pv 3)) se_non rfl) (sb_cons (ss_ret (se_tup (sl_cons se_str (sl_cons (se_call (ok_sum_of_rows T) (hr.mono (by omega)) (by rfl) T.m_sum_of_rows T.f_sum_of_rows.kp T.b_sum_of_rows (sa_vw (se_ix (m := 0) (SE.up (n := 0) (se_rd (pv 0)) (by decide)) se_int) (sa_vw (SF.se (sf_lc (own := [("i", 6)]) rfl S.nd (si_seq (bb := false) (n := 0) (SE.sv (se_rd (pv 3)))) (blkOk_by (show blkC ["code", "places", "marks", "lot", "other", "row", "i", "late", "place"] (defScope s_marks_paper) _ [("i", 6)] = true from by decide +kernel)) (fun _ _ _ _ _ => (gt_name S.nd rfl (Or.inl rfl))) (fun _ _ _ _ _ => sts_nil) (fun _ _ _ _ _ => (se_ix (m := 0) (SE.up (n := 0) (se_ix (m := 0) (SE.up (n := 0) (se_rd (pv 0)) (by decide)) se_int) (by decide)) (se_rd (pv 6)))) (by decide))) sa_nil))) sl_nil)))) sb_nil) sb_nil) (sb_cons (ss_set S.nd rfl (Or.inr rfl) (se_ix (m := 0) (SE.up (n := 0) (SF.se (sf_lc (own := [("late", 7)]) rfl S.nd (si_seq (bb := false) (n := 0) (SE.sv (se_call (ok_free_base T) (hr.mono (by omega)) (by rfl) T.m_free_base T.f_free_base.kp T.b_free_base (sa_vw (se_call (ok_seen_at T) (hr.mono (by omega)) (by rfl) T.m_seen_at T.f_seen_at.kp T.b_seen_at (sa_vw (se_rd (pv 0)) (sa_vw (se_rd (pv 1)) sa_nil))) sa_nil)))) (blkOk_by (show blkC ["code", "places", "marks", "lot", "other", "row", "i", "late", "place"] (defScope s_marks_paper) _ [("late", 7)] = true from by decide +kernel)) (fun _ _ _ _ _ => (gt_name S.nd rfl (Or.inl rfl))) (fun _ _ _ _ _ => (sts_one (st_not (st_val (m := 0) (se_call (ok_are_even T) (hr.mono (by omega)) (by rfl) T.m_are_even T.f_are_even.kp T.b_are_even (sa_vw (se_rd (pv 7)) (sa_vw (se_rd (pv 2)) sa_nil))))))) (fun _ _ _ _ _ => (se_rd (pv 7))) (by decide))) (by decide)) se_int)) (sb_cons (ss_ret (se_tup (sl_cons se_str (sl_cons (se_t1 (m := 1) c_tup (by rfl) T.n_tuple bt_tuple (SE.up (n := 0) (SF.se (sf_lc (own := [("place", 8)]) rfl S.nd (si_r1 (bb := false) (n := 0) (m := 0) (by rfl) T.n_range (se_ix (m := 0) (SE.up (n := 0) (se_rd (pv 0)) (by decide)) se_int)) (blkOk_by (show blkC ["code", "places", "marks", "lot", "other", "row", "i", "late", "place"] (defScope s_marks_paper) _ [("place", 8)] = true from by decide +kernel)) (fun _ _ _ _ _ => (gt_name S.nd rfl (Or.inl rfl))) (fun _ _ _ _ _ => sts_nil) (fun _ _ _ _ _ => (se_if (st_cmp (m := 0) (o_in hu5) (se_rd (pv 8)) (se_rd (pv 1)) rfl) (se_ix (m := 0) (SE.up (n := 0) (se_rd (pv 4)) (by decide)) (se_idx (m := 0) (es := []) (SE.up (n := 0) (se_rd (pv 1)) (by decide)) (se_rd (pv 8)))) se_int)) (by decide))) (by decide))) sl_nil)))) sb_nil))))))
theorem ok_judge_marks (T : Txt K mg) : FnOk P w K mg base CX0 5 T.a_judge_marks T.d_judge_marks ["code", "places", "marks", "value"] (spF F_judge_marks 4) := by
  refine fn_ev (k := 4) T.f_judge_marks sc_judge_marks fun cdv A outer s H E hr => ?_
  have S := sc_judge_marks
  have hu := hr.units
  have hu5 := u65 hr
  exact (show SB _ _ b_judge_marks from (sb_cons (ss_if (st_pw (st_or (st_not (st_val (m := 0) (se_call (ok_is_worded T) (hr.mono (by omega)) (by rfl) T.m_is_worded T.f_is_worded.kp T.b_is_worded (sa_vw (se_rd (pv 3)) (sa_vw (se_tup (sl_cons se_str (sl_cons se_str sl_nil))) sa_nil))))) (st_or1 (st_not (st_val (m := 0) (se_call (ok_is_row T) (hr.mono (by omega)) (by rfl) T.m_is_row T.f_is_row.kp T.b_is_row (sa_vw (se_ix (m := 0) (SE.up (n := 0) (se_rd (pv 0)) (by decide)) se_int) (sa_vw (se_ix (m := 0) (SE.up (n := 0) (se_rd (pv 3)) (by decide)) se_int) sa_nil)))))))) (sb_cons (ss_ret (se_tup (sl_cons se_str sl_nil))) sb_nil) sb_nil) (sb_cons (ss_set S.nd rfl (Or.inr rfl) (se_ix (m := 0) (SE.up (n := 0) (se_rd (pv 3)) (by decide)) se_int)) (sb_cons (ss_if (st_cmp (m := 0) (o_eq hu) (se_ix (m := 0) (SE.up (n := 0) (se_rd (pv 3)) (by decide)) se_int) se_str rfl) (sb_cons (ss_setLc (own := [("place", 7), ("mark", 8)])  rfl S.nd rfl rfl (sw_true rfl rfl rfl (by decide +kernel))  (si_zipS (bb := false) (n := 0) (by rfl) T.n_zip (SE.sv (se_rd (pv 1))) (SE.sv (se_rd (pv 2)))) (blkOk_by (show blkC ["code", "places", "marks", "value", "row", "wrong", "odd", "place", "mark"] (defScope s_judge_marks) _ [("place", 7), ("mark", 8)] = true from by decide +kernel)) (fun _ _ _ _ _ => (gt_tup rfl (gts_cons (gt_name S.nd rfl (Or.inl rfl)) (gts_cons (gt_name S.nd rfl (Or.inl rfl)) gts_nil)))) (fun _ _ _ _ _ => (sts_one (st_cmp (m := 0) (o_ne hu) (se_ix (m := 0) (SE.up (n := 0) (se_rd (pv 4)) (by decide)) (se_rd (pv 7))) (se_rd (pv 8)) rfl))) (fun _ _ _ _ _ => (se_rd (pv 7))) (by decide)) (sb_cons (ss_if (st_tru (m := 0) (se_rd (pv 5))) (sb_cons (ss_ret (se_tup (sl_cons se_str (sl_cons (se_ix (m := 0) (SE.up (n := 0) (se_rd (pv 5)) (by decide)) se_int) sl_nil)))) sb_nil) sb_nil) (sb_cons (ss_ret (se_if (st_val (m := 0) (se_call (ok_has_row T) (hr.mono (by omega)) (by rfl) T.m_has_row T.f_has_row.kp T.b_has_row (sa_vw (se_rd (pv 0)) (sa_vw (se_rd (pv 4)) sa_nil)))) se_non (se_tup (sl_cons se_str sl_nil)))) sb_nil))) sb_nil) (sb_cons (ss_setLc (own := [("place", 7)])  rfl S.nd rfl rfl (sw_true rfl rfl rfl (by decide +kernel))  (si_r1 (bb := false) (n := 0) (m := 0) (by rfl) T.n_range (se_ix (m := 0) (SE.up (n := 0) (se_rd (pv 0)) (by decide)) se_int)) (blkOk_by (show blkC ["code", "places", "marks", "value", "row", "wrong", "odd", "place", "mark"] (defScope s_judge_marks) _ [("place", 7)] = true from by decide +kernel)) (fun _ _ _ _ _ => (gt_name S.nd rfl (Or.inl rfl))) (fun _ _ _ _ _ => (sts_one (st_pw (st_and (st_cmp (m := 0) (o_nin hu5) (se_rd (pv 7)) (se_rd (pv 1)) rfl) (st_and1 (st_cmp (m := 0) (o_eq hu) (se_ix (m := 0) (SE.up (n := 0) (se_rd (pv 4)) (by decide)) (se_rd (pv 7))) se_int rfl)))))) (fun _ _ _ _ _ => (se_rd (pv 7))) (by decide)) (sb_cons (ss_if (st_tru (m := 0) (se_rd (pv 5))) (sb_cons (ss_ret (se_tup (sl_cons se_str (sl_cons (se_ix (m := 0) (SE.up (n := 0) (se_rd (pv 5)) (by decide)) se_int) sl_nil)))) sb_nil) sb_nil) (sb_cons (ss_set S.nd rfl (Or.inl rfl) (se_call (ok_first_odd T) (hr.mono (by omega)) (by rfl) T.m_first_odd T.f_first_odd.kp T.b_first_odd (sa_vw (se_ix (m := 0) (SE.up (n := 0) (se_rd (pv 0)) (by decide)) se_int) (sa_vw (se_rd (pv 4)) sa_nil)))) (sb_cons (ss_if (st_cmp (m := 0) o_notN (se_rd (pv 6)) se_non rfl) (sb_cons (ss_ret (se_tup (sl_cons se_str (sl_cons (se_rd (pv 6)) sl_nil)))) sb_nil) sb_nil) (sb_cons (ss_ret (se_if (st_val (m := 0) (se_call (ok_are_even T) (hr.mono (by omega)) (by rfl) T.m_are_even T.f_are_even.kp T.b_are_even (sa_vw (se_call (ok_marks_at T) (hr.mono (by omega)) (by rfl) T.m_marks_at T.f_marks_at.kp T.b_marks_at (sa_vw (se_rd (pv 4)) (sa_vw (se_rd (pv 1)) sa_nil))) (sa_vw (se_rd (pv 2)) sa_nil)))) (se_tup (sl_cons se_str sl_nil)) se_non)) sb_nil)))))))))
theorem ok_marks_count (T : Txt K mg) : FnOk P w K mg base CX0 5 T.a_marks_count T.d_marks_count ["code", "places", "marks"] (spF F_marks_count 3) := by
  refine fn_ev (k := 4) T.f_marks_count sc_marks_count fun cdv A outer s H E hr => ?_
  have S := sc_marks_count
  have hu := hr.units
  have hu5 := u65 hr
  exact (show SB _ _ b_marks_count from (sb_cons (ss_if (st_cmp (m := 0) (o_eq hu) (se_ix (m := 0) (se_call (ok_marks_paper T) (hr.mono (by omega)) (by rfl) T.m_marks_paper T.f_marks_paper.kp T.b_marks_paper (sa_vw (se_rd (pv 0)) (sa_vw (se_rd (pv 1)) (sa_vw (se_rd (pv 2)) sa_nil)))) se_int) se_str rfl) (sb_cons (ss_ret se_int) sb_nil) sb_nil) (sb_cons (ss_ret (se_bin (m := 0) o_shl se_int (se_bin (m := 0) o_sub (se_b1 (m := 0) c_len (by rfl) T.n_len bt_len (se_ix (m := 0) (SE.up (n := 0) (se_rd (pv 0)) (by decide)) se_int)) (se_call (ok_rank_at T) (hr.mono (by omega)) (by rfl) T.m_rank_at T.f_rank_at.kp T.b_rank_at (sa_vw (se_rd (pv 0)) (sa_vw (se_rd (pv 1)) sa_nil)))))) sb_nil)))
theorem src_m : ∀ m c : Int, ((bin modD (un intD (bin addD (bin addD (bin mulD (rd 0 1) (cst (.int 69069))) (bin mulD (rd 0 2) (cst (.int 31)))) (cst (.int 5)))) (cst (.int 2147483629))) : EvE) [Slot.dead, Slot.vw 0 (.int m), Slot.vw 0 (.int c)] s00 = some (PyData.int (mix m c), s00) := by
  intro m c
  simp [Ev.bin, Ev.un, Ev.rd, Ev.cst, Ev.bnd, Ev.ret, Ev.lft, Ev.mulD, Ev.addD, Ev.modD, Ev.intD, mix, small]
theorem src_a : ∀ c : Int, ((un absD (rd 0 2)) : EvE) [Slot.dead, Slot.dead, Slot.vw 0 (.int c)] s00 = some (PyData.int (iabs c), s00) := by
  intro c
  simp [Ev.bin, Ev.un, Ev.rd, Ev.cst, Ev.bnd, Ev.ret, Ev.lft, Ev.absD, iabs]
theorem ok__law_source (T : Txt K mg) : FnOk P w K mg base CX0 1 T.a__law_source T.d__law_source ["script"] (spSrc K) := by
  refine T.f__law_source.ok sc__law_source (fun vs H Q E h => by obtain ⟨a, ns, rfl, _⟩ := h; rfl) (fun cdv A outer s H vs Q E hr h => ?_)
  have S := sc__law_source
  exact ⟨_, pss_cons (ps_set S.nd rfl (Or.inl rfl) pe_int) (pss_cons (ps_for .never rfl (pi_list (pv 0)) (pg_name (i := 2) S.nd rfl (Or.inl rfl)) (pss_one (ps_set (i := 1) S.nd rfl (Or.inl rfl) (SE.pe (n := 0) (f := (bin modD (un intD (bin addD (bin addD (bin mulD (rd 0 1) (cst (.int 69069))) (bin mulD (rd 0 2) (cst (.int 31)))) (cst (.int 5)))) (cst (.int 2147483629)))) (se_bin (m := 0) o_mod (se_t1 (m := 0) c_int (by rfl) T.n_int bt_int (se_bin (m := 1) o_add (se_bin (m := 1) o_add (se_bin (m := 1) o_mul (SE.up (n := 0) (se_rd (pv 1)) (by decide)) se_int) (se_bin (m := 1) o_mul (SE.up (n := 0) (se_rd (pv 2)) (by decide)) se_int)) se_int)) se_int)))))
    (pss_one (ps_ret (pe_disp (pps_cons pe_str (pe_revL (pe_lc rfl S.nd (pi_list (pv 0)) (blkOk_by (show blkC ["script", "mixed", "cell"] (defScope s__law_source) _ [("cell", 2)] = true from by decide +kernel)) (fun _ _ _ _ _ => pg_name S.nd rfl (Or.inl rfl)) (fun _ _ _ _ _ => pts_nil) (fun _ _ _ _ _ => SE.pe (n := 0) (f := (un absD (rd 0 2))) (se_b1 (m := 0) c_abs (by rfl) T.n_abs bt_abs (se_rd (pv 2))))))
      (pps_cons pe_str pe_int (pps_cons pe_str (pv 1) (pps_cons pe_str pe_int pps_nil)))) rfl rfl (by simp) (by decide))))), src_read src_m src_a h rfl⟩
theorem ok__law_pick (T : Txt K mg) : FnOk P w K mg base CX0 1 T.a__law_pick T.d__law_pick ["source", "many"] (spF F__law_pick 2) := by
  refine fn_ev (k := 0) T.f__law_pick sc__law_pick fun cdv A outer s H E hr => ?_
  have S := sc__law_pick
  have hu := hr.units
  have hu5 := u65 hr
  exact (show SB _ _ b__law_pick from (sb_cons (ss_while .never (st_pw (st_and (st_cmp (m := 0) o_gt (se_rd (pv 1)) se_int rfl) (st_and (st_cmp (m := 0) o_lt (se_srcG (f := .left) hu (pv 0) rfl) se_int rfl) (st_and1 (st_cmp (m := 0) o_gt (se_srcLen hu (by rfl) T.n_len (pv 0) rfl) se_int rfl))))) (sb_cons (ss_srcPop (f := .left) hu (pv 0) rfl rfl (q3 := ⟨0, 0, 0, 0⟩) (pv 0)) sb_nil)) (sb_cons (ss_set S.nd rfl (Or.inl rfl) (se_srcG (f := .left) hu (pv 0) rfl)) (sb_cons (ss_if (st_pw (st_or (st_cmp (m := 0) o_lt (se_rd (pv 1)) se_int rfl) (st_or1 (st_cmp (m := 0) o_gt (se_rd (pv 2)) se_int rfl)))) (sb_cons (ss_srcPut (f := .left) hu (pv 0) rfl (se_bin (m := 0) o_fdiv (se_rd (pv 2)) (se_b2 (m := 0) (c_max2 rfl) (by rfl) T.n_max bt_max se_int (se_rd (pv 1))))) (sb_cons (ss_ret (se_bin (m := 0) o_mod (se_t1 (m := 0) c_int (by rfl) T.n_int bt_int (se_rd (pv 2))) (se_b2 (m := 0) (c_max2 rfl) (by rfl) T.n_max bt_max se_int (se_rd (pv 1))))) sb_nil)) sb_nil) (sb_cons (ss_srcPut (f := .turn) hu (pv 0) rfl (se_bin (m := 1) o_add (se_srcG (f := .turn) hu (pv 0) rfl) se_int)) (sb_cons (ss_set S.nd rfl (Or.inl rfl) (se_bin (m := 0) o_mod (se_t1 (m := 0) c_int (by rfl) T.n_int bt_int (se_bin (m := 1) o_add (se_srcG (f := .mixed) hu (pv 0) rfl) (se_bin (m := 1) o_mul (se_srcG (f := .turn) hu (pv 0) rfl) se_int))) se_int)) (sb_cons (ss_set S.nd rfl (Or.inl rfl) (se_bin (m := 0) o_mod (se_t1 (m := 0) c_int (by rfl) T.n_int bt_int (se_bin (m := 1) o_add (se_bin (m := 1) o_mul (SE.up (n := 0) (se_rd (pv 3)) (by decide)) (SE.up (n := 0) (se_rd (pv 3)) (by decide))) (se_bin (m := 1) o_mul (se_srcG (f := .turn) hu (pv 0) rfl) se_int))) se_int)) (sb_cons (ss_srcPut (f := .mixed) hu (pv 0) rfl (se_rd (pv 3))) (sb_cons (ss_ret (se_bin (m := 0) o_mod (se_t1 (m := 0) c_int (by rfl) T.n_int bt_int (se_bin (m := 0) o_fdiv (se_rd (pv 3)) se_int)) (se_rd (pv 1)))) sb_nil)))))))))
theorem ok__law_of (T : Txt K mg) : FnOk P w K mg base CX0 2 T.a__law_of T.d__law_of ["source", "some"] (spF F__law_of 2) := by
  refine fn_ev (k := 1) T.f__law_of sc__law_of fun cdv A outer s H E hr => ?_
  have S := sc__law_of
  have hu := hr.units
  have hu5 := u65 hr
  exact (show SB _ _ b__law_of from (sb_cons (ss_ret (se_ix (m := 0) (SE.up (n := 0) (se_rd (pv 1)) (by decide)) (se_call (ok__law_pick T) (hr.mono (by omega)) (by rfl) T.m__law_pick T.f__law_pick.kp T.b__law_pick (sa_src (pv 0) (sa_vw (se_b1 (m := 0) c_len (by rfl) T.n_len bt_len (se_rd (pv 1))) sa_nil))))) sb_nil))
theorem ok__law_mixed (T : Txt K mg) : FnOk P w K mg base CX0 2 T.a__law_mixed T.d__law_mixed ["source", "things"] (spF F__law_mixed 2) := by
  refine fn_ev (k := 1) T.f__law_mixed sc__law_mixed fun cdv A outer s H E hr => ?_
  have S := sc__law_mixed
  have hu := hr.units
  have hu5 := u65 hr
  exact (show SB _ _ b__law_mixed from (sb_cons (ss_new S.nd rfl (Or.inr rfl) (sf_t1 (m := 1) (c_lst rfl) (by rfl) T.n_list bt_list (se_rd (pv 1)))) (sb_cons (ss_pops (own := [("lap", 3)]) rfl S.nd (si_r1 (bb := false) (n := 0) (m := 0) (by rfl) T.n_range (se_b1 (m := 1) c_len (by rfl) T.n_len bt_len (se_rd (pv 2)))) (blkOk_by (show blkC ["source", "things", "rest", "lap"] (defScope s__law_mixed) _ [("lap", 3)] = true from by decide +kernel)) (fun _ _ _ _ _ => (gt_name S.nd rfl (Or.inl rfl))) (fun _ _ _ _ _ => pe_bm PySem.F.plainAttrs_list PySem.F.slot_list_pop PySem.F.type_list_pop mt_popAt (pv 2) (pa_cons (SE.pe (se_call (ok__law_pick T) (hr.mono (by omega)) (by rfl) T.m__law_pick T.f__law_pick.kp T.b__law_pick (sa_src (pv 0) (sa_vw (se_b1 (m := 1) c_len (by rfl) T.n_len bt_len (se_rd (pv 2))) sa_nil)))) pa_nil)) (by decide) (by decide)) sb_nil)))
theorem ok__law_sum (T : Txt K mg) : FnOk P w K mg base CX0 1 T.a__law_sum T.d__law_sum ["one", "other"] (spF F__law_sum 2) := by
  refine fn_ev (k := 0) T.f__law_sum sc__law_sum fun cdv A outer s H E hr => ?_
  have S := sc__law_sum
  have hu := hr.units
  have hu5 := u65 hr
  exact (show SB _ _ b__law_sum from (sb_cons (ss_ret (se_t1 (m := 1) c_tup (by rfl) T.n_tuple bt_tuple (SE.up (n := 0) (SF.se (sf_lc (own := [("a", 2), ("b", 3)]) rfl S.nd (si_zip (bb := false) (n := 0) (by rfl) T.n_zip (SE.sv (se_rd (pv 0))) (SE.sv (se_rd (pv 1)))) (blkOk_by (show blkC ["one", "other", "a", "b"] (defScope s__law_sum) _ [("a", 2), ("b", 3)] = true from by decide +kernel)) (fun _ _ _ _ _ => (gt_tup rfl (gts_cons (gt_name S.nd rfl (Or.inl rfl)) (gts_cons (gt_name S.nd rfl (Or.inl rfl)) gts_nil)))) (fun _ _ _ _ _ => sts_nil) (fun _ _ _ _ _ => (se_t1 (m := 0) c_int (by rfl) T.n_int bt_int (se_cmp (m := 0) (o_ne hu) (se_rd (pv 2)) (se_rd (pv 3)) rfl))) (by decide))) (by decide)))) sb_nil))
theorem ok__law_told (T : Txt K mg) : FnOk P w K mg base CX0 2 T.a__law_told T.d__law_told ["n", "rows"] (spF F__law_told 2) := by
  refine fn_ev (k := 1) T.f__law_told sc__law_told fun cdv A outer s H E hr => ?_
  have S := sc__law_told
  have hu := hr.units
  have hu5 := u65 hr
  exact (show SB _ _ b__law_told from (sb_cons (ss_par2 rfl S.nd rfl rfl (by decide) rfl rfl (sw_vw (SF.se (sf_t1 (m := 1) (c_lst rfl) (by rfl) T.n_list bt_list (se_rd (pv 1)))) (sw_vw (SF.se (sf_lst sl_nil)) sw_nil)) rfl) (sb_cons (ss_for .never rfl (si_r1 (bb := true) (n := 0) (m := 0) (by rfl) T.n_range (se_rd (pv 0))) (gt_name S.nd rfl (Or.inr rfl)) (sb_cons (ss_setLc (own := [("row", 7)])  rfl S.nd rfl rfl (sw_true rfl rfl rfl (by decide +kernel))  (si_seq (bb := false) (n := 0) (SE.sv (se_rd (pv 2)))) (blkOk_by (show blkC ["n", "rows", "left", "found", "p", "some", "head", "row"] (defScope s__law_told) _ [("row", 7)] = true from by decide +kernel)) (fun _ _ _ _ _ => (gt_name S.nd rfl (Or.inl rfl))) (fun _ _ _ _ _ => (sts_one (st_cmp (m := 0) (o_eq hu) (se_ix (m := 0) (SE.up (n := 0) (se_rd (pv 7)) (by decide)) (se_rd (pv 4))) se_int rfl))) (fun _ _ _ _ _ => (se_rd (pv 7))) (by decide)) (sb_cons (ss_if (st_cmp (m := 0) (o_ne hu) (se_rd (pv 5)) (SF.se (sf_lst sl_nil)) rfl) (sb_cons (ss_set S.nd rfl (Or.inr rfl) (se_ix (m := 0) (SE.up (n := 0) (se_rd (pv 5)) (by decide)) se_int)) (sb_cons (ss_set S.nd rfl (Or.inl rfl) (se_bin (m := 1) o_add (SE.up (n := 0) (SF.se (sf_lc (own := [("row", 7)]) rfl S.nd (si_seq (bb := false) (n := 0) (SE.sv (se_rd (pv 3)))) (blkOk_by (show blkC ["n", "rows", "left", "found", "p", "some", "head", "row"] (defScope s__law_told) _ [("row", 7)] = true from by decide +kernel)) (fun _ _ _ _ _ => (gt_name S.nd rfl (Or.inl rfl))) (fun _ _ _ _ _ => sts_nil) (fun _ _ _ _ _ => (se_if (st_cmp (m := 0) (o_eq hu) (se_ix (m := 0) (SE.up (n := 0) (se_rd (pv 7)) (by decide)) (se_rd (pv 4))) se_int rfl) (se_call (ok__law_sum T) (hr.mono (by omega)) (by rfl) T.m__law_sum T.f__law_sum.kp T.b__law_sum (sa_vw (se_rd (pv 7)) (sa_vw (se_rd (pv 6)) sa_nil))) (se_rd (pv 7)))) (by decide))) (by decide)) (SE.up (n := 0) (SF.se (sf_lst (sl_cons (se_rd (pv 6)) sl_nil))) (by decide)))) (sb_cons (ss_setLc (own := [("row", 7)])  rfl S.nd rfl rfl (sw_true rfl rfl rfl (by decide +kernel))  (si_seq (bb := false) (n := 0) (SE.sv (se_rd (pv 2)))) (blkOk_by (show blkC ["n", "rows", "left", "found", "p", "some", "head", "row"] (defScope s__law_told) _ [("row", 7)] = true from by decide +kernel)) (fun _ _ _ _ _ => (gt_name S.nd rfl (Or.inl rfl))) (fun _ _ _ _ _ => (sts_one (st_cmp (m := 0) (o_ne hu) (se_rd (pv 7)) (se_rd (pv 6)) rfl))) (fun _ _ _ _ _ => (se_if (st_cmp (m := 0) (o_eq hu) (se_ix (m := 0) (SE.up (n := 0) (se_rd (pv 7)) (by decide)) (se_rd (pv 4))) se_int rfl) (se_call (ok__law_sum T) (hr.mono (by omega)) (by rfl) T.m__law_sum T.f__law_sum.kp T.b__law_sum (sa_vw (se_rd (pv 7)) (sa_vw (se_rd (pv 6)) sa_nil))) (se_rd (pv 7)))) (by decide)) sb_nil))) sb_nil) sb_nil))) (sb_cons (ss_ret (se_t1 (m := 1) c_tup (by rfl) T.n_tuple bt_tuple (SE.up (n := 0) (se_rd (pv 3)) (by decide)))) sb_nil))))
theorem ok__law_row (T : Txt K mg) : FnOk P w K mg base CX0 3 T.a__law_row T.d__law_row ["source", "n"] (spF F__law_row 2) := by
  refine fn_ev (k := 2) T.f__law_row sc__law_row fun cdv A outer s H E hr => ?_
  have S := sc__law_row
  have hu := hr.units
  have hu5 := u65 hr
  exact (show SB _ _ b__law_row from (sb_cons (ss_set S.nd rfl (Or.inr rfl) (se_call (ok__law_of T) (hr.mono (by omega)) (by rfl) T.m__law_of T.f__law_of.kp T.b__law_of (sa_src (pv 0) (sa_vw (SF.se (sf_lst (sl_cons se_int (sl_cons se_int (sl_cons se_int (sl_cons se_int sl_nil)))))) sa_nil)))) (sb_cons (ss_ret (se_t1 (m := 1) c_tup (by rfl) T.n_tuple bt_tuple (SE.up (n := 0) (SF.se (sf_lc (own := [("p", 3)]) rfl S.nd (si_r1 (bb := false) (n := 0) (m := 0) (by rfl) T.n_range (se_rd (pv 1))) (blkOk_by (show blkC ["source", "n", "share", "p"] (defScope s__law_row) _ [("p", 3)] = true from by decide +kernel)) (fun _ _ _ _ _ => (gt_name S.nd rfl (Or.inl rfl))) (fun _ _ _ _ _ => sts_nil) (fun _ _ _ _ _ => (se_t1 (m := 0) c_int (by rfl) T.n_int bt_int (se_cmp (m := 0) o_lt (se_call (ok__law_pick T) (hr.mono (by omega)) (by rfl) T.m__law_pick T.f__law_pick.kp T.b__law_pick (sa_src (pv 0) (sa_vw se_int sa_nil))) (se_rd (pv 2)) rfl))) (by decide))) (by decide)))) sb_nil)))
theorem ok__law_base (T : Txt K mg) : FnOk P w K mg base CX0 4 T.a__law_base T.d__law_base ["source", "n", "k"] (spF F__law_base 3) := by
  refine fn_ev (k := 3) T.f__law_base sc__law_base fun cdv A outer s H E hr => ?_
  have S := sc__law_base
  have hu := hr.units
  have hu5 := u65 hr
  exact (show SB _ _ b__law_base from (sb_cons (ss_new S.nd rfl (Or.inl rfl) (sf_lst sl_nil)) (sb_cons (ss_for .never rfl (si_r1 (bb := true) (n := 0) (m := 0) (by rfl) T.n_range (se_bin (m := 1) o_mul se_int (SE.up (n := 0) (se_rd (pv 2)) (by decide)))) (gt_name S.nd rfl (Or.inl rfl)) (sb_cons (ss_set S.nd rfl (Or.inl rfl) (se_call (ok__law_row T) (hr.mono (by omega)) (by rfl) T.m__law_row T.f__law_row.kp T.b__law_row (sa_src (pv 0) (sa_vw (se_rd (pv 1)) sa_nil)))) (sb_cons (ss_if (st_pw (st_and (st_cmp (m := 0) o_lt (se_b1 (m := 1) c_len (by rfl) T.n_len bt_len (se_rd (pv 3))) (se_rd (pv 2)) rfl) (st_and1 (st_cmp (m := 0) o_gt (se_b1 (m := 0) c_len (by rfl) T.n_len bt_len (se_call (ok__law_told T) (hr.mono (by omega)) (by rfl) T.m__law_told T.f__law_told.kp T.b__law_told (sa_vw (se_rd (pv 1)) (sa_vw (se_bin (m := 1) o_add (se_rd (pv 3)) (SE.up (n := 0) (SF.se (sf_lst (sl_cons (se_rd (pv 5)) sl_nil))) (by decide))) sa_nil)))) (se_b1 (m := 1) c_len (by rfl) T.n_len bt_len (se_rd (pv 3))) rfl)))) (sb_cons (ss_dropM (sm_app (pv 3) (sl_cons (se_rd (pv 5)) sl_nil))) sb_nil) sb_nil) sb_nil))) (sb_cons (ss_for .never rfl (si_seq (bb := true) (n := 0) (SE.sv0 (se_call (ok__law_mixed T) (hr.mono (by omega)) (by rfl) T.m__law_mixed T.f__law_mixed.kp T.b__law_mixed (sa_src (pv 0) (sa_vw (SE.up (n := 0) (SF.se (sf_lstR rfl (by rfl) T.n_list (sr_1 (m := 0) (by rfl) T.n_range (se_rd (pv 1))))) (by decide)) sa_nil))))) (gt_name S.nd rfl (Or.inr rfl)) (sb_cons (ss_set S.nd rfl (Or.inl rfl) (se_t1 (m := 1) c_tup (by rfl) T.n_tuple bt_tuple (SE.up (n := 0) (SF.se (sf_lc (own := [("q", 7)]) rfl S.nd (si_r1 (bb := false) (n := 0) (m := 0) (by rfl) T.n_range (se_rd (pv 1))) (blkOk_by (show blkC ["source", "n", "k", "found", "lap", "row", "p", "q"] (defScope s__law_base) _ [("q", 7)] = true from by decide +kernel)) (fun _ _ _ _ _ => (gt_name S.nd rfl (Or.inl rfl))) (fun _ _ _ _ _ => sts_nil) (fun _ _ _ _ _ => (se_t1 (m := 0) c_int (by rfl) T.n_int bt_int (se_cmp (m := 0) (o_eq hu) (se_rd (pv 7)) (se_rd (pv 6)) rfl))) (by decide))) (by decide)))) (sb_cons (ss_if (st_pw (st_and (st_cmp (m := 0) o_lt (se_b1 (m := 1) c_len (by rfl) T.n_len bt_len (se_rd (pv 3))) (se_rd (pv 2)) rfl) (st_and1 (st_cmp (m := 0) o_gt (se_b1 (m := 0) c_len (by rfl) T.n_len bt_len (se_call (ok__law_told T) (hr.mono (by omega)) (by rfl) T.m__law_told T.f__law_told.kp T.b__law_told (sa_vw (se_rd (pv 1)) (sa_vw (se_bin (m := 1) o_add (se_rd (pv 3)) (SE.up (n := 0) (SF.se (sf_lst (sl_cons (se_rd (pv 5)) sl_nil))) (by decide))) sa_nil)))) (se_b1 (m := 1) c_len (by rfl) T.n_len bt_len (se_rd (pv 3))) rfl)))) (sb_cons (ss_dropM (sm_app (pv 3) (sl_cons (se_rd (pv 5)) sl_nil))) sb_nil) sb_nil) sb_nil))) (sb_cons (ss_if (st_cmp (m := 0) (o_eq hu) (se_call (ok__law_pick T) (hr.mono (by omega)) (by rfl) T.m__law_pick T.f__law_pick.kp T.b__law_pick (sa_src (pv 0) (sa_vw se_int sa_nil))) se_int rfl) (sb_cons (ss_new S.nd rfl (Or.inl rfl) (sf_t1 (m := 1) (c_lst rfl) (by rfl) T.n_list bt_list (se_call (ok__law_told T) (hr.mono (by omega)) (by rfl) T.m__law_told T.f__law_told.kp T.b__law_told (sa_vw (se_rd (pv 1)) (sa_vw (se_rd (pv 3)) sa_nil))))) sb_nil) sb_nil) (sb_cons (ss_ret (se_t1 (m := 1) c_tup (by rfl) T.n_tuple bt_tuple (se_call (ok__law_mixed T) (hr.mono (by omega)) (by rfl) T.m__law_mixed T.f__law_mixed.kp T.b__law_mixed (sa_src (pv 0) (sa_vw (se_rd (pv 3)) sa_nil))))) sb_nil))))))
theorem ok__law_code (T : Txt K mg) : FnOk P w K mg base CX0 5 T.a__law_code T.d__law_code ["source", "most"] (spF F__law_code 2) := by
  refine fn_ev (k := 4) T.f__law_code sc__law_code fun cdv A outer s H E hr => ?_
  have S := sc__law_code
  have hu := hr.units
  have hu5 := u65 hr
  exact (show SB _ _ b__law_code from (sb_cons (ss_set S.nd rfl (Or.inl rfl) (se_bin (m := 1) o_add se_int (se_call (ok__law_pick T) (hr.mono (by omega)) (by rfl) T.m__law_pick T.f__law_pick.kp T.b__law_pick (sa_src (pv 0) (sa_vw (se_rd (pv 1)) sa_nil))))) (sb_cons (ss_ret (se_tup (sl_cons (se_rd (pv 2)) (sl_cons (se_call (ok__law_base T) (hr.mono (by omega)) (by rfl) T.m__law_base T.f__law_base.kp T.b__law_base (sa_src (pv 0) (sa_vw (se_rd (pv 2)) (sa_vw (se_call (ok__law_of T) (hr.mono (by omega)) (by rfl) T.m__law_of T.f__law_of.kp T.b__law_of (sa_src (pv 0) (sa_vw (SF.se (sf_lst (sl_cons se_int (sl_cons (se_rd (pv 2)) (sl_cons (se_call (ok__law_pick T) (hr.mono (by omega)) (by rfl) T.m__law_pick T.f__law_pick.kp T.b__law_pick (sa_src (pv 0) (sa_vw (se_bin (m := 1) o_add (SE.up (n := 0) (se_rd (pv 2)) (by decide)) se_int) sa_nil))) (sl_cons (se_call (ok__law_pick T) (hr.mono (by omega)) (by rfl) T.m__law_pick T.f__law_pick.kp T.b__law_pick (sa_src (pv 0) (sa_vw (se_bin (m := 1) o_add (SE.up (n := 0) (se_rd (pv 2)) (by decide)) se_int) sa_nil))) (sl_cons (se_bin (m := 0) o_fdiv (se_rd (pv 2)) se_int) sl_nil))))))) sa_nil))) sa_nil)))) sl_nil)))) sb_nil)))
theorem ok__law_some_row (T : Txt K mg) : FnOk P w K mg base CX0 2 T.a__law_some_row T.d__law_some_row ["source", "code"] (spF F__law_some_row 2) := by
  refine fn_ev (k := 1) T.f__law_some_row sc__law_some_row fun cdv A outer s H E hr => ?_
  have S := sc__law_some_row
  have hu := hr.units
  have hu5 := u65 hr
  exact (show SB _ _ b__law_some_row from (sb_cons (ss_set S.nd rfl (Or.inl rfl) (se_bin (m := 1) o_mul (se_tup (sl_cons se_int sl_nil)) (SE.up (n := 0) (se_ix (m := 0) (SE.up (n := 0) (se_rd (pv 1)) (by decide)) se_int) (by decide)))) (sb_cons (ss_for .never rfl (si_seq (bb := true) (n := 0) (SE.sv0 (se_ix (m := 0) (SE.up (n := 0) (se_rd (pv 1)) (by decide)) se_int))) (gt_name S.nd rfl (Or.inl rfl)) (sb_cons (ss_set S.nd rfl (Or.inl rfl) (se_if (st_cmp (m := 0) (o_eq hu) (se_call (ok__law_pick T) (hr.mono (by omega)) (by rfl) T.m__law_pick T.f__law_pick.kp T.b__law_pick (sa_src (pv 0) (sa_vw se_int sa_nil))) se_int rfl) (se_call (ok__law_sum T) (hr.mono (by omega)) (by rfl) T.m__law_sum T.f__law_sum.kp T.b__law_sum (sa_vw (se_rd (pv 2)) (sa_vw (se_rd (pv 3)) sa_nil))) (se_rd (pv 2)))) sb_nil)) (sb_cons (ss_ret (se_rd (pv 2))) sb_nil))))
theorem ok__law_is_odd (T : Txt K mg) : FnOk P w K mg base CX0 1 T.a__law_is_odd T.d__law_is_odd ["one", "other"] (spF F__law_is_odd 2) := by
  refine fn_ev (k := 0) T.f__law_is_odd sc__law_is_odd fun cdv A outer s H E hr => ?_
  have S := sc__law_is_odd
  have hu := hr.units
  have hu5 := u65 hr
  exact (show SB _ _ b__law_is_odd from (sb_cons (ss_ret (se_cmp (m := 0) (o_eq hu) (se_bin (m := 0) o_mod (se_t1 (m := 0) c_int (by rfl) T.n_int bt_int (se_b1 (m := 0) (c_sum rfl) (by rfl) T.n_sum bt_sum (SF.se (sf_lc (own := [("a", 2), ("b", 3)]) rfl S.nd (si_zip (bb := false) (n := 0) (by rfl) T.n_zip (SE.sv (se_rd (pv 0))) (SE.sv (se_rd (pv 1)))) (blkOk_by (show blkC ["one", "other", "a", "b"] (defScope s__law_is_odd) _ [("a", 2), ("b", 3)] = true from by decide +kernel)) (fun _ _ _ _ _ => (gt_tup rfl (gts_cons (gt_name S.nd rfl (Or.inl rfl)) (gts_cons (gt_name S.nd rfl (Or.inl rfl)) gts_nil)))) (fun _ _ _ _ _ => sts_nil) (fun _ _ _ _ _ => (se_bin (m := 1) o_mul (SE.up (n := 0) (se_rd (pv 2)) (by decide)) (SE.up (n := 0) (se_rd (pv 3)) (by decide)))) (by decide))))) se_int) se_int rfl)) sb_nil))
theorem ok__law_leading (T : Txt K mg) : FnOk P w K mg base CX0 1 T.a__law_leading T.d__law_leading ["base"] (spF F__law_leading 1) := by
  refine fn_ev (k := 0) T.f__law_leading sc__law_leading fun cdv A outer s H E hr => ?_
  have S := sc__law_leading
  have hu := hr.units
  have hu5 := u65 hr
  exact (show SB _ _ b__law_leading from (sb_cons (ss_ret (se_t1 (m := 1) c_tup (by rfl) T.n_tuple bt_tuple (SE.up (n := 0) (SF.se (sf_lc (own := [("row", 1)]) rfl S.nd (si_seq (bb := false) (n := 0) (SE.sv (se_rd (pv 0)))) (blkOk_by (show blkC ["base", "row"] (defScope s__law_leading) _ [("row", 1)] = true from by decide +kernel)) (fun _ _ _ _ _ => (gt_name S.nd rfl (Or.inl rfl))) (fun _ _ _ _ _ => sts_nil) (fun _ _ _ _ _ => (se_idx (m := 0) (es := []) (SE.up (n := 0) (se_rd (pv 1)) (by decide)) se_int)) (by decide))) (by decide)))) sb_nil))
theorem ok__law_free (T : Txt K mg) : FnOk P w K mg base CX0 3 T.a__law_free T.d__law_free ["n", "rows"] (spF F__law_free 2) := by
  refine fn_ev (k := 2) T.f__law_free sc__law_free fun cdv A outer s H E hr => ?_
  have S := sc__law_free
  have hu := hr.units
  have hu5 := u65 hr
  exact (show SB _ _ b__law_free from (sb_cons (ss_par2 rfl S.nd rfl rfl (by decide) rfl rfl (sw_vw (se_call (ok__law_told T) (hr.mono (by omega)) (by rfl) T.m__law_told T.f__law_told.kp T.b__law_told (sa_vw (se_rd (pv 0)) (sa_vw (SE.up (n := 0) (se_rd (pv 1)) (by decide)) sa_nil))) (sw_own (sf_lst sl_nil) sw_nil)) rfl) (sb_cons (ss_set S.nd rfl (Or.inr rfl) (se_call (ok__law_leading T) (hr.mono (by omega)) (by rfl) T.m__law_leading T.f__law_leading.kp T.b__law_leading (sa_vw (se_rd (pv 2)) sa_nil))) (sb_cons (ss_for .never rfl (si_seq (bb := true) (n := 0) (SE.sv0 (SF.se (sf_lc (own := [("p", 5)]) rfl S.nd (si_r1 (bb := false) (n := 0) (m := 0) (by rfl) T.n_range (se_rd (pv 0))) (blkOk_by (show blkC ["n", "rows", "base", "found", "leading", "p", "ones", "row", "q"] (defScope s__law_free) _ [("p", 5)] = true from by decide +kernel)) (fun _ _ _ _ _ => (gt_name S.nd rfl (Or.inl rfl))) (fun _ _ _ _ _ => (sts_one (st_cmp (m := 0) (o_nin hu5) (se_rd (pv 5)) (se_rd (pv 4)) rfl))) (fun _ _ _ _ _ => (se_rd (pv 5))) (by decide))))) (gt_name S.nd rfl (Or.inr rfl)) (sb_cons (ss_set S.nd rfl (Or.inr rfl) (se_bin (m := 1) o_add (SE.up (n := 0) (SF.se (sf_lst (sl_cons (se_rd (pv 5)) sl_nil))) (by decide)) (SE.up (n := 0) (SF.se (sf_lc (own := [("row", 7)]) rfl S.nd (si_seq (bb := false) (n := 0) (SE.sv (se_rd (pv 2)))) (blkOk_by (show blkC ["n", "rows", "base", "found", "leading", "p", "ones", "row", "q"] (defScope s__law_free) _ [("row", 7)] = true from by decide +kernel)) (fun _ _ _ _ _ => (gt_name S.nd rfl (Or.inl rfl))) (fun _ _ _ _ _ => (sts_one (st_cmp (m := 0) (o_eq hu) (se_ix (m := 0) (SE.up (n := 0) (se_rd (pv 7)) (by decide)) (se_rd (pv 5))) se_int rfl))) (fun _ _ _ _ _ => (se_idx (m := 0) (es := []) (SE.up (n := 0) (se_rd (pv 7)) (by decide)) se_int)) (by decide))) (by decide)))) (sb_cons (ss_dropM (sm_app (pv 3) (sl_cons (se_t1 (m := 1) c_tup (by rfl) T.n_tuple bt_tuple (SE.up (n := 0) (SF.se (sf_lc (own := [("q", 8)]) rfl S.nd (si_r1 (bb := false) (n := 0) (m := 0) (by rfl) T.n_range (se_rd (pv 0))) (blkOk_by (show blkC ["n", "rows", "base", "found", "leading", "p", "ones", "row", "q"] (defScope s__law_free) _ [("q", 8)] = true from by decide +kernel)) (fun _ _ _ _ _ => (gt_name S.nd rfl (Or.inl rfl))) (fun _ _ _ _ _ => sts_nil) (fun _ _ _ _ _ => (se_t1 (m := 0) c_int (by rfl) T.n_int bt_int (se_cmp (m := 0) (o_in hu5) (se_rd (pv 8)) (se_rd (pv 6)) rfl))) (by decide))) (by decide))) sl_nil))) sb_nil))) (sb_cons (ss_ret (se_t1 (m := 1) c_tup (by rfl) T.n_tuple bt_tuple (se_rd (pv 3)))) sb_nil)))))
theorem ok__law_other (T : Txt K mg) : FnOk P w K mg base CX0 4 T.a__law_other T.d__law_other ["code"] (spF F__law_other 1) := by
  refine fn_ev (k := 3) T.f__law_other sc__law_other fun cdv A outer s H E hr => ?_
  have S := sc__law_other
  have hu := hr.units
  have hu5 := u65 hr
  exact (show SB _ _ b__law_other from (sb_cons (ss_ret (se_tup (sl_cons (se_ix (m := 0) (SE.up (n := 0) (se_rd (pv 0)) (by decide)) se_int) (sl_cons (se_call (ok__law_told T) (hr.mono (by omega)) (by rfl) T.m__law_told T.f__law_told.kp T.b__law_told (sa_vw (se_ix (m := 0) (SE.up (n := 0) (se_rd (pv 0)) (by decide)) se_int) (sa_vw (se_call (ok__law_free T) (hr.mono (by omega)) (by rfl) T.m__law_free T.f__law_free.kp T.b__law_free (sa_vw (se_ix (m := 0) (SE.up (n := 0) (se_rd (pv 0)) (by decide)) se_int) (sa_vw (se_ix (m := 0) (SE.up (n := 0) (se_rd (pv 0)) (by decide)) se_int) sa_nil))) sa_nil))) sl_nil)))) sb_nil))
theorem ok__law_has (T : Txt K mg) : FnOk P w K mg base CX0 3 T.a__law_has T.d__law_has ["code", "row"] (spF F__law_has 2) := by
  refine fn_ev (k := 2) T.f__law_has sc__law_has fun cdv A outer s H E hr => ?_
  have S := sc__law_has
  have hu := hr.units
  have hu5 := u65 hr
  exact (show SB _ _ b__law_has from (sb_cons (ss_ret (se_cmp (m := 0) (o_eq hu) (se_b1 (m := 0) c_len (by rfl) T.n_len bt_len (se_call (ok__law_told T) (hr.mono (by omega)) (by rfl) T.m__law_told T.f__law_told.kp T.b__law_told (sa_vw (se_ix (m := 0) (SE.up (n := 0) (se_rd (pv 0)) (by decide)) se_int) (sa_vw (se_bin (m := 1) o_add (SE.up (n := 0) (SF.se (sf_t1 (m := 1) (c_lst rfl) (by rfl) T.n_list bt_list (SE.up (n := 0) (se_ix (m := 0) (SE.up (n := 0) (se_rd (pv 0)) (by decide)) se_int) (by decide)))) (by decide)) (SE.up (n := 0) (SF.se (sf_lst (sl_cons (se_rd (pv 1)) sl_nil))) (by decide))) sa_nil)))) (se_b1 (m := 0) c_len (by rfl) T.n_len bt_len (se_ix (m := 0) (SE.up (n := 0) (se_rd (pv 0)) (by decide)) se_int)) rfl)) sb_nil))
theorem ok__law_number (T : Txt K mg) : FnOk P w K mg base CX0 1 T.a__law_number T.d__law_number ["value"] (spF F__law_number 1) := by
  refine fn_ev (k := 0) T.f__law_number sc__law_number fun cdv A outer s H E hr => ?_
  have S := sc__law_number
  have hu := hr.units
  have hu5 := u65 hr
  exact (show SB _ _ b__law_number from (sb_cons (ss_ret (se_and (m := 0) (se_isi (m := 0) (k := .int) (by rfl) T.n_isinstance bt_isinstance (se_rd (pv 0)) (by rfl) T.n_int bt_int) (se_one (se_not (m := 0) (se_isi (m := 0) (k := .bool) (by rfl) T.n_isinstance bt_isinstance (se_rd (pv 0)) (by rfl) T.n_bool bt_bool))))) sb_nil))
theorem ok__law_are_below (T : Txt K mg) : FnOk P w K mg base CX0 2 T.a__law_are_below T.d__law_are_below ["value", "most"] (spF F__law_are_below 2) := by
  refine fn_ev (k := 1) T.f__law_are_below sc__law_are_below fun cdv A outer s H E hr => ?_
  have S := sc__law_are_below
  have hu := hr.units
  have hu5 := u65 hr
  exact (show SB _ _ b__law_are_below from (sb_cons (ss_ret (se_and (m := 0) (se_isi (m := 0) (k := .tuple) (by rfl) T.n_isinstance bt_isinstance (se_rd (pv 0)) (by rfl) T.n_tuple bt_tuple) (se_one (se_cmp (m := 0) (o_eq hu) (SF.se (sf_lc (own := [("one", 2)]) rfl S.nd (si_seq (bb := false) (n := 0) (SE.sv (se_rd (pv 0)))) (blkOk_by (show blkC ["value", "most", "one"] (defScope s__law_are_below) _ [("one", 2)] = true from by decide +kernel)) (fun _ _ _ _ _ => (gt_name S.nd rfl (Or.inl rfl))) (fun _ _ _ _ _ => (sts_one (st_pw (st_or (st_not (st_val (m := 0) (se_call (ok__law_number T) (hr.mono (by omega)) (by rfl) T.m__law_number T.f__law_number.kp T.b__law_number (sa_vw (se_rd (pv 2)) sa_nil)))) (st_or1 (st_not (st_chn (m := 0) o_le o_lt se_int (se_rd (pv 2)) (se_rd (pv 1))))))))) (fun _ _ _ _ _ => se_int) (by decide))) (SF.se (sf_lst sl_nil)) rfl)))) sb_nil))
theorem ok__law_is_row (T : Txt K mg) : FnOk P w K mg base CX0 3 T.a__law_is_row T.d__law_is_row ["n", "value"] (spF F__law_is_row 2) := by
  refine fn_ev (k := 2) T.f__law_is_row sc__law_is_row fun cdv A outer s H E hr => ?_
  have S := sc__law_is_row
  have hu := hr.units
  have hu5 := u65 hr
  exact (show SB _ _ b__law_is_row from (sb_cons (ss_ret (se_and (m := 0) (se_call (ok__law_are_below T) (hr.mono (by omega)) (by rfl) T.m__law_are_below T.f__law_are_below.kp T.b__law_are_below (sa_vw (se_rd (pv 1)) (sa_vw se_int sa_nil))) (se_one (se_cmp (m := 0) (o_eq hu) (se_b1 (m := 0) c_len (by rfl) T.n_len bt_len (se_rd (pv 1))) (se_rd (pv 0)) rfl)))) sb_nil))
theorem ok__law_bent (T : Txt K mg) : ∀ k : Nat, FnOk P w K mg base CX0 (3 + k) T.a__law_bent T.d__law_bent ["source", "value"] (spF (F__law_bent k) 2)
  | 0 => ⟨fun vs H Q E h => h.1, fun A outer s H args us vs Q E hr e0 hb r h => by obtain ⟨_, _, _, _, _, _, _, _, _, e, _⟩ := h; cases e⟩
  | k + 1 => by
    have ih : FnOk P w K mg base CX0 (3 + k) T.a__law_bent T.d__law_bent ["source", "value"] (spF (F__law_bent k) 2) := ok__law_bent T k
    refine fn_ev T.f__law_bent sc__law_bent fun cdv A outer s H E hr => ?_
    have S := sc__law_bent
    have hu := hr.units
    have hu5 := u65 hr
    have hrr := hr
    have hr : Room (3 + k) (A.deeper (envOfC "_law_bent" (defScope s__law_bent) s.heap.objs.size T.a__law_bent cdv)) := hr
    exact (show SB _ _ (b__law_bent (F__law_bent k)) from (sb_cons (ss_set S.nd rfl (Or.inl rfl) (SF.se (sf_lst (sl_cons se_non (sl_cons se_int (sl_cons se_int (sl_cons se_int (sl_cons se_bl (sl_cons (se_un (m := 0) o_neg se_int) (sl_cons se_int (sl_cons se_str (sl_cons se_str (sl_cons se_str (sl_cons se_str (sl_cons se_str (sl_cons (se_tup sl_nil) (sl_cons (se_tup (sl_cons se_int sl_nil)) (sl_cons (se_tup (sl_cons se_int (sl_cons se_int sl_nil))) (sl_cons (se_tup (sl_cons se_int (sl_cons se_int sl_nil))) (sl_cons (SF.se (sf_lst sl_nil)) (sl_cons se_dict0 (sl_cons (se_tup (sl_cons (se_tup (sl_cons se_int (sl_cons se_int sl_nil))) sl_nil)) sl_nil)))))))))))))))))))))) (sb_cons (ss_if (st_pw (st_or (st_not (st_val (m := 0) (se_isi (m := 0) (k := .tuple) (by rfl) T.n_isinstance bt_isinstance (se_rd (pv 1)) (by rfl) T.n_tuple bt_tuple))) (st_or (st_cmp (m := 0) (o_eq hu) (se_rd (pv 1)) (se_tup sl_nil) rfl) (st_or1 (st_cmp (m := 0) (o_eq hu) (se_call (ok__law_pick T) (hr.mono (by omega)) (by rfl) T.m__law_pick T.f__law_pick.kp T.b__law_pick (sa_src (pv 0) (sa_vw se_int sa_nil))) se_int rfl))))) (sb_cons (ss_set S.nd rfl (Or.inl rfl) (SF.se (sf_lst (sl_cons (se_call (ok__law_of T) (hr.mono (by omega)) (by rfl) T.m__law_of T.f__law_of.kp T.b__law_of (sa_src (pv 0) (sa_vw (se_rd (pv 2)) sa_nil))) sl_nil)))) (sb_cons (ss_if (st_val (m := 0) (se_isi (m := 0) (k := .tuple) (by rfl) T.n_isinstance bt_isinstance (se_rd (pv 1)) (by rfl) T.n_tuple bt_tuple)) (sb_cons (ss_set S.nd rfl (Or.inl rfl) (se_bin (m := 1) o_add (SE.up (n := 0) (se_rd (pv 3)) (by decide)) (SE.up (n := 0) (SF.se (sf_lst (sl_cons (se_slice (SE.up (n := 0) (se_rd (pv 1)) (by decide)) (so_some (m := 0) se_int) so_none) (sl_cons (se_slice (SE.up (n := 0) (se_rd (pv 1)) (by decide)) so_none (so_some (m := 0) (se_un (m := 0) o_neg se_int))) (sl_cons (se_bin (m := 1) o_add (SE.up (n := 0) (se_rd (pv 1)) (by decide)) (se_slice (SE.up (n := 0) (se_rd (pv 1)) (by decide)) so_none (so_some (m := 0) se_int))) (sl_cons (SF.se (sf_t1 (m := 1) (c_lst rfl) (by rfl) T.n_list bt_list (SE.up (n := 0) (se_rd (pv 1)) (by decide)))) (sl_cons (se_revT (m := 0) (se_rd (pv 1))) (sl_cons (se_bin (m := 1) o_add (SE.up (n := 0) (se_rd (pv 1)) (by decide)) (se_tup (sl_cons se_int sl_nil))) sl_nil)))))))) (by decide)))) sb_nil) sb_nil) (sb_cons (ss_ret (se_call (ok__law_of T) (hr.mono (by omega)) (by rfl) T.m__law_of T.f__law_of.kp T.b__law_of (sa_src (pv 0) (sa_vw (se_rd (pv 3)) sa_nil)))) sb_nil))) sb_nil) (sb_cons (ss_par2 rfl S.nd rfl rfl (by decide) rfl rfl (sw_vw (se_call (ok__law_pick T) (hr.mono (by omega)) (by rfl) T.m__law_pick T.f__law_pick.kp T.b__law_pick (sa_src (pv 0) (sa_vw (se_b1 (m := 0) c_len (by rfl) T.n_len bt_len (se_rd (pv 1))) sa_nil))) (sw_vw (se_call (ok__law_pick T) (hr.mono (by omega)) (by rfl) T.m__law_pick T.f__law_pick.kp T.b__law_pick (sa_src (pv 0) (sa_vw se_int sa_nil))) sw_nil)) rfl) (sb_cons (ss_if (st_pw (st_and (st_cmp (m := 0) o_lt (se_rd (pv 5)) se_int rfl) (st_and1 (st_val (m := 0) (se_call (ok__law_number T) (hr.mono (by omega)) (by rfl) T.m__law_number T.f__law_number.kp T.b__law_number (sa_vw (se_ix (m := 0) (SE.up (n := 0) (se_rd (pv 1)) (by decide)) (se_rd (pv 4))) sa_nil)))))) (sb_cons (ss_ret (se_bin (m := 1) o_add (se_bin (m := 1) o_add (se_slice (SE.up (n := 0) (se_rd (pv 1)) (by decide)) so_none (so_some (m := 0) (se_rd (pv 4)))) (se_tup (sl_cons (se_call (ok__law_of T) (hr.mono (by omega)) (by rfl) T.m__law_of T.f__law_of.kp T.b__law_of (sa_src (pv 0) (sa_vw (SF.se (sf_lst (sl_cons (se_bin (m := 0) o_sub se_int (se_ix (m := 0) (SE.up (n := 0) (se_rd (pv 1)) (by decide)) (se_rd (pv 4)))) (sl_cons (se_bin (m := 1) o_add (SE.up (n := 0) (se_ix (m := 0) (SE.up (n := 0) (se_rd (pv 1)) (by decide)) (se_rd (pv 4))) (by decide)) se_int) (sl_cons (se_bin (m := 0) o_sub (se_ix (m := 0) (SE.up (n := 0) (se_rd (pv 1)) (by decide)) (se_rd (pv 4))) se_int) sl_nil))))) sa_nil))) sl_nil))) (se_slice (SE.up (n := 0) (se_rd (pv 1)) (by decide)) (so_some (m := 0) (se_bin (m := 1) o_add (SE.up (n := 0) (se_rd (pv 4)) (by decide)) se_int)) so_none))) sb_nil) sb_nil) (sb_cons (ss_if (st_cmp (m := 0) (o_eq hu) (se_rd (pv 5)) se_int rfl) (sb_cons (ss_ret (se_bin (m := 1) o_add (se_slice (SE.up (n := 0) (se_rd (pv 1)) (by decide)) so_none (so_some (m := 0) (se_rd (pv 4)))) (se_slice (SE.up (n := 0) (se_rd (pv 1)) (by decide)) (so_some (m := 0) (se_bin (m := 1) o_add (SE.up (n := 0) (se_rd (pv 4)) (by decide)) se_int)) so_none))) sb_nil) sb_nil) (sb_cons (ss_ret (se_bin (m := 1) o_add (se_bin (m := 1) o_add (se_slice (SE.up (n := 0) (se_rd (pv 1)) (by decide)) so_none (so_some (m := 0) (se_rd (pv 4)))) (se_tup (sl_cons (se_call ih hrr (by rfl) T.m__law_bent T.f__law_bent.kp T.b__law_bent (sa_src (pv 0) (sa_vw (se_ix (m := 0) (SE.up (n := 0) (se_rd (pv 1)) (by decide)) (se_rd (pv 4))) sa_nil))) sl_nil))) (se_slice (SE.up (n := 0) (se_rd (pv 1)) (by decide)) (so_some (m := 0) (se_bin (m := 1) o_add (SE.up (n := 0) (se_rd (pv 4)) (by decide)) se_int)) so_none))) sb_nil)))))))
theorem ok__law_places (T : Txt K mg) : FnOk P w K mg base CX0 2 T.a__law_places T.d__law_places ["source", "n"] (spF F__law_places 2) := by
  refine fn_ev (k := 1) T.f__law_places sc__law_places fun cdv A outer s H E hr => ?_
  have S := sc__law_places
  have hu := hr.units
  have hu5 := u65 hr
  exact (show SB _ _ b__law_places from (sb_cons (ss_set S.nd rfl (Or.inl rfl) (se_t1 (m := 1) c_tup (by rfl) T.n_tuple bt_tuple (SE.up (n := 0) (SF.se (sf_lc (own := [("p", 3)]) rfl S.nd (si_r1 (bb := false) (n := 0) (m := 0) (by rfl) T.n_range (se_rd (pv 1))) (blkOk_by (show blkC ["source", "n", "found", "p"] (defScope s__law_places) _ [("p", 3)] = true from by decide +kernel)) (fun _ _ _ _ _ => (gt_name S.nd rfl (Or.inl rfl))) (fun _ _ _ _ _ => (sts_one (st_cmp (m := 0) (o_eq hu) (se_call (ok__law_pick T) (hr.mono (by omega)) (by rfl) T.m__law_pick T.f__law_pick.kp T.b__law_pick (sa_src (pv 0) (sa_vw se_int sa_nil))) se_int rfl))) (fun _ _ _ _ _ => (se_rd (pv 3))) (by decide))) (by decide)))) (sb_cons (ss_ret (se_if (st_cmp (m := 0) (o_ne hu) (se_rd (pv 2)) (se_tup sl_nil) rfl) (se_rd (pv 2)) (se_tup (sl_cons (se_call (ok__law_pick T) (hr.mono (by omega)) (by rfl) T.m__law_pick T.f__law_pick.kp T.b__law_pick (sa_src (pv 0) (sa_vw (se_rd (pv 1)) sa_nil))) sl_nil)))) sb_nil)))
theorem ok__law_at (T : Txt K mg) : FnOk P w K mg base CX0 1 T.a__law_at T.d__law_at ["row", "places"] (spF F__law_at 2) := by
  refine fn_ev (k := 0) T.f__law_at sc__law_at fun cdv A outer s H E hr => ?_
  have S := sc__law_at
  have hu := hr.units
  have hu5 := u65 hr
  exact (show SB _ _ b__law_at from (sb_cons (ss_ret (se_t1 (m := 1) c_tup (by rfl) T.n_tuple bt_tuple (SE.up (n := 0) (SF.se (sf_lc (own := [("p", 2)]) rfl S.nd (si_seq (bb := false) (n := 0) (SE.sv (se_rd (pv 1)))) (blkOk_by (show blkC ["row", "places", "p"] (defScope s__law_at) _ [("p", 2)] = true from by decide +kernel)) (fun _ _ _ _ _ => (gt_name S.nd rfl (Or.inl rfl))) (fun _ _ _ _ _ => sts_nil) (fun _ _ _ _ _ => (se_ix (m := 0) (SE.up (n := 0) (se_rd (pv 0)) (by decide)) (se_rd (pv 2)))) (by decide))) (by decide)))) sb_nil))
theorem ok__law_seen (T : Txt K mg) : FnOk P w K mg base CX0 3 T.a__law_seen T.d__law_seen ["code", "places"] (spF F__law_seen 2) := by
  refine fn_ev (k := 2) T.f__law_seen sc__law_seen fun cdv A outer s H E hr => ?_
  have S := sc__law_seen
  have hu := hr.units
  have hu5 := u65 hr
  exact (show SB _ _ b__law_seen from (sb_cons (ss_ret (se_tup (sl_cons (se_b1 (m := 0) c_len (by rfl) T.n_len bt_len (se_rd (pv 1))) (sl_cons (se_call (ok__law_told T) (hr.mono (by omega)) (by rfl) T.m__law_told T.f__law_told.kp T.b__law_told (sa_vw (se_b1 (m := 0) c_len (by rfl) T.n_len bt_len (se_rd (pv 1))) (sa_vw (SE.up (n := 0) (SF.se (sf_lc (own := [("row", 2)]) rfl S.nd (si_seq (bb := false) (n := 0) (SE.sv (se_ix (m := 0) (SE.up (n := 0) (se_rd (pv 0)) (by decide)) se_int))) (blkOk_by (show blkC ["code", "places", "row"] (defScope s__law_seen) _ [("row", 2)] = true from by decide +kernel)) (fun _ _ _ _ _ => (gt_name S.nd rfl (Or.inl rfl))) (fun _ _ _ _ _ => sts_nil) (fun _ _ _ _ _ => (se_call (ok__law_at T) (hr.mono (by omega)) (by rfl) T.m__law_at T.f__law_at.kp T.b__law_at (sa_vw (se_rd (pv 2)) (sa_vw (se_rd (pv 1)) sa_nil)))) (by decide))) (by decide)) sa_nil))) sl_nil)))) sb_nil))
theorem ok__law_fault (T : Txt K mg) : FnOk P w K mg base CX0 4 T.a__law_fault T.d__law_fault ["code", "places", "marks", "value"] (spF F__law_fault 4) := by
  refine fn_ev (k := 3) T.f__law_fault sc__law_fault fun cdv A outer s H E hr => ?_
  have S := sc__law_fault
  have hu := hr.units
  have hu5 := u65 hr
  exact (show SB _ _ b__law_fault from (sb_cons (ss_tg (se_rd (pv 0)) (gt_tup rfl (gts_cons (gt_name S.nd rfl (Or.inl rfl)) (gts_cons (gt_name S.nd rfl (Or.inl rfl)) gts_nil)))) (sb_cons (ss_if (st_pw (st_or (st_not (st_val (m := 0) (se_isi (m := 0) (k := .tuple) (by rfl) T.n_isinstance bt_isinstance (se_rd (pv 3)) (by rfl) T.n_tuple bt_tuple))) (st_or (st_cmp (m := 0) (o_ne hu) (se_b1 (m := 0) c_len (by rfl) T.n_len bt_len (se_rd (pv 3))) se_int rfl) (st_or (st_not (st_val (m := 0) (se_isi (m := 0) (k := .str) (by rfl) T.n_isinstance bt_isinstance (se_ix (m := 0) (SE.up (n := 0) (se_rd (pv 3)) (by decide)) se_int) (by rfl) T.n_str bt_str))) (st_or1 (st_cmp (m := 0) (o_nin hu5) (se_ix (m := 0) (SE.up (n := 0) (se_rd (pv 3)) (by decide)) se_int) (se_tup (sl_cons se_str (sl_cons se_str sl_nil))) rfl)))))) (sb_cons (ss_ret (se_tup (sl_cons se_str sl_nil))) sb_nil) sb_nil) (sb_cons (ss_if (st_not (st_val (m := 0) (se_call (ok__law_is_row T) (hr.mono (by omega)) (by rfl) T.m__law_is_row T.f__law_is_row.kp T.b__law_is_row (sa_vw (se_rd (pv 4)) (sa_vw (se_ix (m := 0) (SE.up (n := 0) (se_rd (pv 3)) (by decide)) se_int) sa_nil))))) (sb_cons (ss_ret (se_tup (sl_cons se_str sl_nil))) sb_nil) sb_nil) (sb_cons (ss_if (st_cmp (m := 0) (o_eq hu) (se_ix (m := 0) (SE.up (n := 0) (se_rd (pv 3)) (by decide)) se_int) se_str rfl) (sb_cons (ss_setLc (own := [("p", 7), ("mark", 8)])  rfl S.nd rfl rfl (sw_true rfl rfl rfl (by decide +kernel))  (si_zip (bb := false) (n := 0) (by rfl) T.n_zip (SE.sv (se_rd (pv 1))) (SE.sv (se_rd (pv 2)))) (blkOk_by (show blkC ["code", "places", "marks", "value", "n", "base", "wrong", "p", "mark", "i", "row"] (defScope s__law_fault) _ [("p", 7), ("mark", 8)] = true from by decide +kernel)) (fun _ _ _ _ _ => (gt_tup rfl (gts_cons (gt_name S.nd rfl (Or.inl rfl)) (gts_cons (gt_name S.nd rfl (Or.inl rfl)) gts_nil)))) (fun _ _ _ _ _ => (sts_one (st_cmp (m := 0) (o_ne hu) (se_ix (m := 0) (SE.up (n := 0) (se_ix (m := 0) (SE.up (n := 0) (se_rd (pv 3)) (by decide)) se_int) (by decide)) (se_rd (pv 7))) (se_rd (pv 8)) rfl))) (fun _ _ _ _ _ => (se_rd (pv 7))) (by decide)) (sb_cons (ss_ret (se_if (st_cmp (m := 0) (o_ne hu) (se_rd (pv 6)) (SF.se (sf_lst sl_nil)) rfl) (se_tup (sl_cons se_str (sl_cons (se_ix (m := 0) (SE.up (n := 0) (se_rd (pv 6)) (by decide)) se_int) sl_nil))) (se_if (st_val (m := 0) (se_call (ok__law_has T) (hr.mono (by omega)) (by rfl) T.m__law_has T.f__law_has.kp T.b__law_has (sa_vw (se_rd (pv 0)) (sa_vw (se_ix (m := 0) (SE.up (n := 0) (se_rd (pv 3)) (by decide)) se_int) sa_nil)))) se_non (se_tup (sl_cons se_str sl_nil))))) sb_nil)) sb_nil) (sb_cons (ss_setLc (own := [("p", 7)])  rfl S.nd rfl rfl (sw_true rfl rfl rfl (by decide +kernel))  (si_r1 (bb := false) (n := 0) (m := 0) (by rfl) T.n_range (se_rd (pv 4))) (blkOk_by (show blkC ["code", "places", "marks", "value", "n", "base", "wrong", "p", "mark", "i", "row"] (defScope s__law_fault) _ [("p", 7)] = true from by decide +kernel)) (fun _ _ _ _ _ => (gt_name S.nd rfl (Or.inl rfl))) (fun _ _ _ _ _ => (sts_one (st_pw (st_and (st_cmp (m := 0) (o_nin hu5) (se_rd (pv 7)) (se_rd (pv 1)) rfl) (st_and1 (st_cmp (m := 0) (o_eq hu) (se_ix (m := 0) (SE.up (n := 0) (se_ix (m := 0) (SE.up (n := 0) (se_rd (pv 3)) (by decide)) se_int) (by decide)) (se_rd (pv 7))) se_int rfl)))))) (fun _ _ _ _ _ => (se_rd (pv 7))) (by decide)) (sb_cons (ss_if (st_cmp (m := 0) (o_ne hu) (se_rd (pv 6)) (SF.se (sf_lst sl_nil)) rfl) (sb_cons (ss_ret (se_tup (sl_cons se_str (sl_cons (se_ix (m := 0) (SE.up (n := 0) (se_rd (pv 6)) (by decide)) se_int) sl_nil)))) sb_nil) sb_nil) (sb_cons (ss_setLc (own := [("i", 9), ("row", 10)])  rfl S.nd rfl rfl (sw_true rfl rfl rfl (by decide +kernel))  (si_enum (bb := false) (n := 0) (by rfl) T.n_enumerate (SE.sv (se_rd (pv 5)))) (blkOk_by (show blkC ["code", "places", "marks", "value", "n", "base", "wrong", "p", "mark", "i", "row"] (defScope s__law_fault) _ [("i", 9), ("row", 10)] = true from by decide +kernel)) (fun _ _ _ _ _ => (gt_tup rfl (gts_cons (gt_name S.nd rfl (Or.inl rfl)) (gts_cons (gt_name S.nd rfl (Or.inl rfl)) gts_nil)))) (fun _ _ _ _ _ => (sts_one (st_val (m := 0) (se_call (ok__law_is_odd T) (hr.mono (by omega)) (by rfl) T.m__law_is_odd T.f__law_is_odd.kp T.b__law_is_odd (sa_vw (se_rd (pv 10)) (sa_vw (se_ix (m := 0) (SE.up (n := 0) (se_rd (pv 3)) (by decide)) se_int) sa_nil)))))) (fun _ _ _ _ _ => (se_rd (pv 9))) (by decide)) (sb_cons (ss_if (st_cmp (m := 0) (o_ne hu) (se_rd (pv 6)) (SF.se (sf_lst sl_nil)) rfl) (sb_cons (ss_ret (se_tup (sl_cons se_str (sl_cons (se_ix (m := 0) (SE.up (n := 0) (se_rd (pv 6)) (by decide)) se_int) sl_nil)))) sb_nil) sb_nil) (sb_cons (ss_ret (se_if (st_cmp (m := 0) (o_eq hu) (se_bin (m := 0) o_mod (se_t1 (m := 0) c_int (by rfl) T.n_int bt_int (se_b1 (m := 0) (c_sum rfl) (by rfl) T.n_sum bt_sum (SF.se (sf_lc (own := [("p", 7), ("mark", 8)]) rfl S.nd (si_zip (bb := false) (n := 0) (by rfl) T.n_zip (SE.sv (se_rd (pv 1))) (SE.sv (se_rd (pv 2)))) (blkOk_by (show blkC ["code", "places", "marks", "value", "n", "base", "wrong", "p", "mark", "i", "row"] (defScope s__law_fault) _ [("p", 7), ("mark", 8)] = true from by decide +kernel)) (fun _ _ _ _ _ => (gt_tup rfl (gts_cons (gt_name S.nd rfl (Or.inl rfl)) (gts_cons (gt_name S.nd rfl (Or.inl rfl)) gts_nil)))) (fun _ _ _ _ _ => sts_nil) (fun _ _ _ _ _ => (se_bin (m := 1) o_mul (SE.up (n := 0) (se_ix (m := 0) (SE.up (n := 0) (se_ix (m := 0) (SE.up (n := 0) (se_rd (pv 3)) (by decide)) se_int) (by decide)) (se_rd (pv 7))) (by decide)) (SE.up (n := 0) (se_rd (pv 8)) (by decide)))) (by decide))))) se_int) se_int rfl) se_non (se_tup (sl_cons se_str sl_nil)))) sb_nil))))))))))
end
end K75
end

section
set_option linter.all false
set_option Elab.async false
set_option maxRecDepth 100000
/-! Plain words about denotations: no machine in sight. -/
namespace Ev
open PySem
theorem mapF_pure {α : Type} {f : α → M (Option D)} (g : α → Option D) : ∀ {xs : List α}, (∀ x ∈ xs, f x = ret (g x)) → mapF f xs = ret (xs.filterMap g)
  | [], _ => rfl
  | x :: xs, h => by
    have ih := mapF_pure (xs := xs) g fun y hy => h y (List.mem_cons_of_mem _ hy)
    rw [mapF, h x List.mem_cons_self, bnd_ret, ih, bnd_ret, List.filterMap_cons]
    cases g x <;> rfl
@[simp] theorem mapF_map {α β : Type} {f : β → M (Option D)} {g : α → β} : ∀ {xs : List α}, mapF f (xs.map g) = mapF (fun x => f (g x)) xs
  | [] => rfl
  | x :: xs => by rw [List.map_cons, mapF, mapF, mapF_map]
theorem mapF_congr {α : Type} {f g : α → M (Option D)} : ∀ {xs : List α}, (∀ x ∈ xs, f x = g x) → mapF f xs = mapF g xs
  | [], _ => rfl
  | x :: xs, h => by rw [mapF, mapF, h x List.mem_cons_self, mapF_congr fun y hy => h y (List.mem_cons_of_mem _ hy)]
theorem mapF_cong {α : Type} {f g : α → M (Option D)} {xs ys : List α} (e : xs = ys) (h : ∀ x, x ∈ ys → f x = g x) : mapF f xs = mapF g ys := by
  subst e; exact mapF_congr h
@[simp] theorem mapF_rs {α : Type} (g : α → D) (xs : List α) : mapF (fun x => ret (some (g x))) xs = ret (xs.map g) := by
  rw [mapF_pure (fun x => some (g x)) fun _ _ => rfl, List.filterMap_eq_map']
theorem mapF_some {α : Type} {f : α → M (Option D)} (g : α → D) {xs : List α} (h : ∀ x ∈ xs, f x = ret (some (g x))) : mapF f xs = ret (xs.map g) := by
  rw [mapF_pure (fun x => some (g x)) h, List.filterMap_eq_map']
theorem mapF_if {α : Type} {f : α → M (Option D)} (c : α → Bool) (g : α → D) {xs : List α} (h : ∀ x ∈ xs, f x = ret (if c x then some (g x) else none)) : mapF f xs = ret ((xs.filter c).map g) := by
  rw [mapF_pure (fun x => if c x then some (g x) else none) h]
  congr 1
  induction xs with
  | nil => rfl
  | cons x xs ih =>
    rw [List.filterMap_cons, List.filter_cons, ih fun y hy => h y (List.mem_cons_of_mem _ hy)]
    cases c x <;> rfl
/-- one turn of a list made in brackets -/
def cstep (own : List Nat) (t : Tg) (c : EvT) (e : EvE) (ss : Slots) (x : D) : M (Option D) := match t x (wipeS ss own) with
  | some ss1 => bnd (c ss1) fun k => if k then bnd (e ss1) fun y => ret (some y) else ret none
  | none => stop
theorem comp_eq {own : List Nat} {src : EvL} {t : Tg} {c : EvT} {e : EvE} {ss : Slots} : comp own src t c e ss = bnd (src ss) fun xs => bnd (mapF (cstep own t c e ss) xs) fun ys => if ys.length ≤ lim then ret ys else stop := rfl
theorem cstep_at {own : List Nat} {t : Tg} {c : EvT} {e : EvE} {ss ss1 : Slots} {x : D} (h : t x (wipeS ss own) = some ss1) : cstep own t c e ss x = bnd (c ss1) fun k => if k then bnd (e ss1) fun y => ret (some y) else ret none := by
  unfold cstep; rw [h]
theorem comp_of {own : List Nat} {src : EvL} {t : Tg} {c : EvT} {e : EvE} {ss : Slots} {xs ys : List D} (hs : src ss = ret xs)
    (h : mapF (cstep own t c e ss) xs = ret ys) (hl : ys.length ≤ lim) : comp own src t c e ss = ret ys := by
  rw [comp_eq, hs, bnd_ret, h, bnd_ret, if_pos hl]
theorem mapF_ri {α : Type} (c : α → Bool) (g : α → D) (xs : List α) : mapF (fun x => ret (if c x = true then some (g x) else none)) xs = ret ((xs.filter c).map g) := mapF_if c g fun _ _ => rfl
theorem ite_ret {α : Type} (c : Prop) [Decidable c] (a b : α) : (if c then ret a else ret b) = ret (if c then a else b) := by split <;> rfl
theorem eqv_int (a b : Int) : PyData.eqv (.int a) (.int b) = (a == b) := by
  unfold PyData.eqv; rfl
theorem shaped_int (a : Int) : SeqAt.shaped (.int a) = true := by simp [SeqAt.shaped, PyData.canLay0, PyData.depth]
@[simp] theorem ne_int (a b : Int) : neD (.int a) (.int b) = some (.bool (!(a == b))) := by
  unfold neD; rw [shaped_int, shaped_int, eqv_int]; rfl
@[simp] theorem eq_int (a b : Int) : eqD (.int a) (.int b) = some (.bool (a == b)) := by
  unfold eqD; rw [shaped_int, shaped_int, eqv_int]; rfl
@[simp] theorem lft_some {α : Type} (a : α) : lft (some a) = ret a := rfl
@[simp] theorem zipIdx_mapR {α : Type} (n : Nat) (f : Nat → α) : ((List.range n).map f).zipIdx = (List.range n).map fun i => (f i, i) := by
  apply List.ext_getElem <;> simp
theorem zip_mapR {α β : Type} (n : Nat) (f : Nat → α) (g : Nat → β) : ((List.range n).map f).zip ((List.range n).map g) = (List.range n).map fun i => (f i, g i) := by
  apply List.ext_getElem <;> simp
theorem comp_map {α : Type} {own : List Nat} {src : EvL} {t : Tg} {c : EvT} {e : EvE} {ss : Slots} (xs : List α) (g0 : α → D) (g : α → D) (hs : src ss = ret (xs.map g0))
    (h : ∀ x ∈ xs, cstep own t c e ss (g0 x) = ret (some (g x))) (hl : xs.length ≤ lim) : comp own src t c e ss = ret (xs.map g) :=
  comp_of hs (by rw [mapF_map, mapF_some g h]) (by simpa using hl)
theorem comp_if {α : Type} {own : List Nat} {src : EvL} {t : Tg} {c : EvT} {e : EvE} {ss : Slots} (xs : List α) (g0 : α → D) (p : α → Bool) (g : α → D) (hs : src ss = ret (xs.map g0))
    (h : ∀ x ∈ xs, cstep own t c e ss (g0 x) = ret (if p x then some (g x) else none)) (hl : xs.length ≤ lim) : comp own src t c e ss = ret ((xs.filter p).map g) :=
  comp_of hs (by rw [mapF_map, mapF_if p g h]) (by rw [List.length_map]; exact Nat.le_trans (List.length_filter_le _ _) hl)
def rdG (n : Nat) : Option Slot → M D
  | some (.vw k d) => if k ≤ n then ret d else stop
  | some (.own k d) => if k ≤ n then ret d else stop
  | some (.lck k d) => if k ≤ n then ret d else stop
  | _ => stop
def rdH (n : Nat) : Option Slot → M D
  | some (.vw k d) => if k ≤ n then ret d else stop
  | _ => stop
def isSrc {α : Type} (o : Option Slot) (x : M α) : M α := match o with
  | some .src => x
  | _ => stop
section
variable {n i k : Nat} {ss : Slots} {d x y : D} {a b c : EvE} {p q : EvT} {l m : EvL} {r r2 : EvA} {op op' : D → D → Option D} {o1 : D → Option D} {st su : EvS} {f : Fn}
@[simp] theorem ev_rd : rd n i ss = rdG n ss[i]? := by unfold rd rdG; rfl
@[simp] theorem ev_rdB : rdB n i ss = rdH n ss[i]? := by unfold rdB rdH; rfl
@[simp] theorem rdG_vw : rdG n (some (.vw k d)) = if k ≤ n then ret d else stop := rfl
@[simp] theorem rdG_own : rdG n (some (.own k d)) = if k ≤ n then ret d else stop := rfl
@[simp] theorem rdG_lck : rdG n (some (.lck k d)) = if k ≤ n then ret d else stop := rfl
@[simp] theorem rdH_vw : rdH n (some (.vw k d)) = if k ≤ n then ret d else stop := rfl
@[simp] theorem ev_argsS : argsS i r ss = isSrc ss[i]? (bnd (r ss) fun xs => ret (.src :: xs)) := by unfold argsS isSrc; rfl
@[simp] theorem isSrc_src {α : Type} {x : M α} : isSrc (some .src) x = x := rfl
@[simp] theorem ev_cst : cst d ss = ret d := rfl
@[simp] theorem ev_un : un o1 a ss = bnd (a ss) fun x => lft (o1 x) := rfl
@[simp] theorem ev_bin : bin op a b ss = bnd (a ss) fun x => bnd (b ss) fun y => lft (op x y) := rfl
@[simp] theorem ev_tst : tst a ss = bnd (a ss) fun x => match x with | .bool b => ret b | _ => stop := rfl
@[simp] theorem ev_tru : tru a ss = bnd (a ss) fun x => lft (truD x) := rfl
@[simp] theorem ev_andT : andT p q ss = bnd (p ss) fun c => if c then q ss else ret false := rfl
@[simp] theorem ev_orT : orT p q ss = bnd (p ss) fun c => if c then ret true else q ss := rfl
@[simp] theorem ev_notT : notT p ss = bnd (p ss) fun c => ret (!c) := rfl
@[simp] theorem ev_andV : andV a b ss = bnd (a ss) fun x => match x with | .bool c => if c then b ss else ret (.bool false) | _ => stop := rfl
@[simp] theorem ev_orV : orV a b ss = bnd (a ss) fun x => match x with | .bool c => if c then ret (.bool true) else b ss | _ => stop := rfl
@[simp] theorem ev_notV : notV a ss = bnd (a ss) fun x => match x with | .bool c => ret (.bool (!c)) | _ => stop := rfl
@[simp] theorem ev_notTV : notTV p ss = bnd (p ss) fun c => ret (.bool (!c)) := rfl
@[simp] theorem ev_iteE : iteE p a b ss = bnd (p ss) fun k => if k then a ss else b ss := rfl
@[simp] theorem ev_chn : chn op op' a b c ss = bnd (a ss) fun x => bnd (b ss) fun y => bnd (lft (op x y)) fun z => match z with | .bool k => if k then bnd (c ss) fun u => lft (op' y u) else ret (.bool false) | _ => stop := rfl
@[simp] theorem ev_nilA : nilA ss = ret [] := rfl
@[simp] theorem ev_consA : consA a l ss = bnd (a ss) fun x => bnd (l ss) fun xs => ret (x :: xs) := rfl
@[simp] theorem ev_starA : starA m l ss = bnd (m ss) fun xs => bnd (l ss) fun ys => ret (xs ++ ys) := rfl
@[simp] theorem ev_starE : starE a ss = bnd (a ss) fun x => lft (items x) := rfl
@[simp] theorem ev_tupE : tupE l ss = bnd (l ss) fun xs => if xs.length ≤ lim then ret (.tuple xs) else stop := rfl
@[simp] theorem ev_lstE : lstE l ss = bnd (l ss) fun xs => if xs.length ≤ lim then ret (.list xs) else stop := rfl
@[simp] theorem ev_argsN : argsN ss = ret [] := rfl
@[simp] theorem ev_argsE : argsE n a r ss = bnd (a ss) fun x => bnd (r ss) fun xs => ret (.vw n x :: xs) := rfl
@[simp] theorem ev_callE : callE f r ss = bnd (r ss) fun xs => f xs := rfl
@[simp] theorem ev_yes : yes ss = ret true := rfl
@[simp] theorem ev_compE : compE l ss = bnd (l ss) fun ys => ret (.list ys) := rfl
@[simp] theorem ev_pass : pass ss = ret (.nx ss) := rfl
@[simp] theorem ev_seq : seq st su ss = bnd (st ss) fun o => match o with | .nx ss' => su ss' | o => ret o := rfl
@[simp] theorem ev_setS : setS i a ss = bnd (a ss) fun d => ret (.nx (ss.set i (.vw 0 d))) := rfl
@[simp] theorem ev_newS : newS k i a ss = bnd (a ss) fun d => ret (.nx (ss.set i (.own k d))) := rfl
@[simp] theorem ev_tgS {t : Tg} : tgS t a ss = bnd (a ss) fun d => bnd (lft (t d ss)) fun ss' => ret (.nx ss') := rfl
@[simp] theorem ev_retS : retS a ss = bnd (a ss) fun d => ret (.rt d) := rfl
@[simp] theorem ev_dropS : dropS a ss = bnd (a ss) fun _ => ret (.nx ss) := rfl
@[simp] theorem ev_ifS : ifS p st su ss = bnd (p ss) fun k => if k then st ss else su ss := rfl
@[simp] theorem ev_kill {is : List Nat} : kill is ss = ret (.nx (wipeS ss is)) := rfl
@[simp] theorem ev_forS {t : Tg} {is : List Nat} : forS l t st is ss = bnd (l ss) fun xs => forL t st is xs ss := rfl
@[simp] theorem ev_seqL : seqL a ss = bnd (a ss) fun d => lft (items d) := rfl
@[simp] theorem ev_enumL : enumL l ss = bnd (l ss) fun ds => ret (ds.zipIdx.map fun q => .tuple [.int (q.2 : Nat), q.1]) := rfl
@[simp] theorem ev_zipL : zipL l m ss = bnd (l ss) fun ds => bnd (m ss) fun es => ret ((ds.zip es).map fun q => .tuple [q.1, q.2]) := rfl
@[simp] theorem ev_zipSL : zipSL l m ss = bnd (l ss) fun ds => bnd (m ss) fun es => if ds.length = es.length then ret ((ds.zip es).map fun q => .tuple [q.1, q.2]) else stop := rfl
@[simp] theorem ev_runF {as : List Slot} : runF n st as = bnd (st (as ++ List.replicate (n - as.length) .dead)) fun o => match o with | .rt d => ret d | .nx _ => ret .none | _ => stop := rfl
@[simp] theorem tg_name : tName k i d ss = some (ss.set i (.vw k d)) := rfl
@[simp] theorem tg_tup {ts : List Tg} {ds : List D} : tTup ts (.tuple ds) ss = tSeq ts ds ss := rfl
@[simp] theorem tg_nil : tSeq [] [] ss = some ss := rfl
@[simp] theorem tg_cons {t : Tg} {ts : List Tg} {ds : List D} : tSeq (t :: ts) (d :: ds) ss = (t d ss).bind fun ss' => tSeq ts ds ss' := rfl
@[simp] theorem wipe_nil : wipeS ss [] = ss := rfl
@[simp] theorem wipe_cons {is : List Nat} : wipeS ss (i :: is) = (wipeS ss is).set i .dead := rfl
@[simp] theorem ev_cstep {own : List Nat} {t : Tg} : cstep own t p a ss x = match t x (wipeS ss own) with | some ss1 => bnd (p ss1) fun k => if k then bnd (a ss1) fun y => ret (some y) else ret none | none => stop := rfl
@[simp] theorem it_tup {ds : List D} : items (.tuple ds) = some ds := rfl
@[simp] theorem it_lst {ds : List D} : items (.list ds) = some ds := rfl
@[simp] theorem tt_lst {ds : List D} : toTup (.list ds) = some (.tuple ds) := rfl
@[simp] theorem tt_tup {ds : List D} : toTup (.tuple ds) = some (.tuple ds) := rfl
@[simp] theorem tl_lst {ds : List D} : toLst (.list ds) = some (.list ds) := rfl
@[simp] theorem tl_tup {ds : List D} : toLst (.tuple ds) = some (.list ds) := rfl
@[simp] theorem in_int {j : Int} : intD (.int j) = some (.int j) := rfl
@[simp] theorem in_bool {j : Bool} : intD (.bool j) = some (.int (if j then 1 else 0)) := rfl
end
/-- rows of zeros and ones -/
def bit (v i : Nat) : Int := if v.testBit i then 1 else 0
def eB (v i : Nat) : D := .int (bit v i)
def eR (n v : Nat) : D := .tuple ((List.range n).map (eB v))
def eRs (n : Nat) (vs : List Nat) : List D := vs.map (eR n)
theorem eR_ix {n v i : Nat} (h : i < n) : ixS (eR n v) (.int i) = some (eB v i) := by
  unfold ixS eR
  simp [at_, ixN, h]
end Ev
end

section
set_option linter.all false
set_option Elab.async false
set_option maxRecDepth 100000
/-! Loops, the source, and small values: plain words, for any law. -/
namespace Ev
open PySem
@[simp] theorem bnd_bnd {α β γ : Type} (x : M α) (f : α → M β) (g : β → M γ) : bnd (bnd x f) g = bnd x fun a => bnd (f a) g := by
  funext s
  unfold bnd
  cases x s with
  | none => rfl
  | some p => rfl
theorem bnd_ite {α β : Type} (c : Prop) [Decidable c] (x y : M α) (f : α → M β) : bnd (if c then x else y) f = if c then bnd x f else bnd y f := by split <;> rfl
/-- from at most 63 cells: it comes to an end with at most 63, and P -/
def Ok {α : Type} (x : M α) (P : α → Prop) : Prop := ∀ s : Src, s.cells.length ≤ 63 → ∃ a s', x s = some (a, s') ∧ s'.cells.length ≤ 63 ∧ P a
theorem Ok.ret {α : Type} {a : α} {P : α → Prop} (h : P a) : Ok (Ev.ret a) P := fun s hs => ⟨a, s, rfl, hs, h⟩
theorem Ok.bnd {α β : Type} {x : M α} {f : α → M β} {P : α → Prop} {Q : β → Prop} (h : Ok x P) (k : ∀ a, P a → Ok (f a) Q) : Ok (Ev.bnd x f) Q := fun s hs => by
  obtain ⟨a, s1, e, h1, p⟩ := h s hs
  obtain ⟨b, s2, e2, h2, q⟩ := k a p s1 h1
  exact ⟨b, s2, by rw [bnd_of e, e2], h2, q⟩
theorem Ok.mono {α : Type} {x : M α} {P Q : α → Prop} (h : Ok x P) (k : ∀ a, P a → Q a) : Ok x Q := fun s hs => by
  obtain ⟨a, s1, e, h1, p⟩ := h s hs
  exact ⟨a, s1, e, h1, k a p⟩
theorem Ok.eq {α : Type} {x : M α} {a : α} {P : α → Prop} (e : x = Ev.ret a) (h : P a) : Ok x P := by rw [e]; exact .ret h
inductive Rel2 {α β : Type} (R : α → β → Prop) : List α → List β → Prop
  | nil : Rel2 R [] []
  | cons {a b as bs} : R a b → Rel2 R as bs → Rel2 R (a :: as) (b :: bs)
theorem Rel2.len {α β : Type} {R : α → β → Prop} {as : List α} {bs : List β} (h : Rel2 R as bs) : as.length = bs.length := by
  induction h with
  | nil => rfl
  | cons _ _ ih => simp [ih]
theorem Rel2.all {α β : Type} {R : α → β → Prop} {as : List α} {bs : List β} (h : Rel2 R as bs) : ∀ b ∈ bs, ∃ a ∈ as, R a b := by
  induction h with
  | nil => intro b hb; cases hb
  | cons r _ ih =>
    intro b hb
    rcases List.mem_cons.1 hb with e | e
    · subst e; exact ⟨_, List.mem_cons_self, r⟩
    · obtain ⟨a, ha, r⟩ := ih b e; exact ⟨a, List.mem_cons_of_mem _ ha, r⟩
theorem Ok.mapF {α : Type} {f : α → M (Option D)} (R : α → D → Prop) : ∀ {xs : List α}, (∀ x ∈ xs, Ok (f x) fun o => ∃ y, o = some y ∧ R x y) → Ok (Ev.mapF f xs) (Rel2 R xs)
  | [], _ => .ret .nil
  | x :: xs, h => by
    unfold Ev.mapF
    refine (h x List.mem_cons_self).bnd fun o ho => ?_
    obtain ⟨y, rfl, r⟩ := ho
    exact (Ok.mapF R fun z hz => h z (List.mem_cons_of_mem _ hz)).bnd fun ys hys => .ret (.cons r hys)
theorem Ok.mapFs {α : Type} {f : α → M (Option D)} (g : α → D) : ∀ {xs : List α}, (∀ x ∈ xs, Ok (f x) fun o => o = none ∨ o = some (g x)) → Ok (Ev.mapF f xs) fun ys => ∃ zs : List α, zs.Sublist xs ∧ ys = zs.map g
  | [], _ => .ret ⟨[], .slnil, rfl⟩
  | x :: xs, h => by
    unfold Ev.mapF
    refine (h x List.mem_cons_self).bnd fun o ho => ?_
    refine (Ok.mapFs g fun z hz => h z (List.mem_cons_of_mem _ hz)).bnd fun ys hys => .ret ?_
    obtain ⟨zs, h1, h2⟩ := hys
    rcases ho with rfl | rfl
    · exact ⟨zs, h1.cons _, h2⟩
    · exact ⟨x :: zs, h1.cons₂ _, by simp [h2]⟩
theorem Ok.comp {α : Type} {own : List Nat} {src : EvL} {t : Tg} {c : EvT} {e : EvE} {ss : Slots} (xs : List α) (g0 : α → D) (R : α → D → Prop) (hs : src ss = Ev.ret (xs.map g0))
    (h : ∀ x ∈ xs, Ok (cstep own t c e ss (g0 x)) fun o => ∃ y, o = some y ∧ R x y) (hl : xs.length ≤ lim) : Ok (Ev.comp own src t c e ss) (Rel2 R xs) := by
  rw [comp_eq, hs, bnd_ret, mapF_map]
  refine (Ok.mapF R h).bnd fun ys hys => ?_
  rw [if_pos (by rw [← hys.len]; exact hl)]
  exact .ret hys
theorem Ok.comps {α : Type} {own : List Nat} {src : EvL} {t : Tg} {c : EvT} {e : EvE} {ss : Slots} (xs : List α) (g0 : α → D) (g : α → D) (hs : src ss = Ev.ret (xs.map g0))
    (h : ∀ x ∈ xs, Ok (cstep own t c e ss (g0 x)) fun o => o = none ∨ o = some (g x)) (hl : xs.length ≤ lim) : Ok (Ev.comp own src t c e ss) fun ys => ∃ zs : List α, zs.Sublist xs ∧ ys = zs.map g := by
  rw [comp_eq, hs, bnd_ret, mapF_map]
  refine (Ok.mapFs g h).bnd fun ys hys => ?_
  have : ys.length ≤ lim := by
    obtain ⟨zs, h1, h2⟩ := hys
    rw [h2, List.length_map]; exact Nat.le_trans h1.length_le hl
  rw [if_pos this]
  exact .ret hys
/-! loops -/
def lturn (t : Tg) (b : EvS) (dead : List Nat) (x : D) (ss : Slots) : M Slots := match t x ss with
  | some ss1 => bnd (b ss1) fun o => match o with
    | .nx ss2 => ret (wipeS ss2 dead)
    | .ct ss2 => ret (wipeS ss2 dead)
    | _ => stop
  | none => stop
theorem forL_eq {t : Tg} {b : EvS} {dead : List Nat} {x : D} {xs : List D} : forL t b dead (x :: xs) = fun ss => match t x ss with
    | some ss1 => bnd (b ss1) fun o => match o with
      | .nx ss2 => forL t b dead xs (wipeS ss2 dead)
      | .ct ss2 => forL t b dead xs (wipeS ss2 dead)
      | .bk ss2 => ret (.nx ss2)
      | .rt d => ret (.rt d)
    | none => stop := rfl
theorem forL_cons {t : Tg} {b : EvS} {dead : List Nat} {x : D} {xs : List D} {ss ss' : Slots} {s s' : Src} (h : lturn t b dead x ss s = some (ss', s')) :
    forL t b dead (x :: xs) ss s = forL t b dead xs ss' s' := by
  unfold lturn at h
  rw [forL_eq]
  cases ht : t x ss with
  | none => rw [ht] at h; cases h
  | some ss1 =>
    rw [ht] at h
    dsimp only at h ⊢
    rw [ht]
    dsimp only
    obtain ⟨o, s1, e1, h⟩ := bnd_inv h
    rw [bnd_of e1]
    cases o with
    | nx ss2 => obtain ⟨q1, q2⟩ := ret_inv h; subst q1; subst q2; rfl
    | ct ss2 => obtain ⟨q1, q2⟩ := ret_inv h; subst q1; subst q2; rfl
    | bk _ => cases h
    | rt _ => cases h
theorem forL_ok {t : Tg} {b : EvS} {dead : List Nat} {I : List D → Slots → Prop} (h : ∀ x xs ss, I (x :: xs) ss → Ok (lturn t b dead x ss) (I xs)) :
    ∀ (xs : List D) (ss : Slots), I xs ss → Ok (forL t b dead xs ss) fun o => ∃ ss', o = .nx ss' ∧ I [] ss'
  | [], ss, i => .ret ⟨ss, rfl, i⟩
  | x :: xs, ss, i => fun s hs => by
    obtain ⟨ss', s', e, h1, i1⟩ := h x xs ss i s hs
    obtain ⟨o, s2, e2, h2, q⟩ := forL_ok h xs ss' i1 s' h1
    exact ⟨o, s2, by rw [forL_cons e, e2], h2, q⟩
theorem forL_okJ {t : Tg} {b : EvS} {dead : List Nat} {xs : List D} {ss : Slots} (J : Slots → Prop) (h : ∀ x ∈ xs, ∀ ss, J ss → Ok (lturn t b dead x ss) J) (j : J ss) :
    Ok (forL t b dead xs ss) fun o => ∃ ss', o = .nx ss' ∧ J ss' :=
  (forL_ok (I := fun ys ss => (∀ y ∈ ys, y ∈ xs) ∧ J ss) (fun x ys ss i => (h x (i.1 x List.mem_cons_self) ss i.2).mono fun ss' j' => ⟨fun y hy => i.1 y (List.mem_cons_of_mem _ hy), j'⟩) xs ss ⟨fun y hy => hy, j⟩).mono
    fun o ⟨ss', e, i⟩ => ⟨ss', e, i.2⟩
theorem forL_cons' {t : Tg} {b : EvS} {dead : List Nat} {x : D} {xs : List D} {ss ss' : Slots} (h : lturn t b dead x ss = ret ss') :
    forL t b dead (x :: xs) ss = forL t b dead xs ss' := by
  funext s
  exact forL_cons (by rw [h]; rfl)
theorem forL_fold {α β : Type} {t : Tg} {b : EvS} {dead : List Nat} {ds : List D} {ss : Slots} (enc : α → D) (g : β → Slots) (step : β → α → β) (J : β → Prop) (xs : List α) (st : β) (hd : ds = xs.map enc) (hs : ss = g st) (hJ : J st)
    (h : ∀ st, J st → ∀ x ∈ xs, lturn t b dead (enc x) (g st) = ret (g (step st x)) ∧ J (step st x)) : forL t b dead ds ss = ret (.nx (g (xs.foldl step st))) ∧ J (xs.foldl step st) := by
  subst hd; subst hs
  induction xs generalizing st with
  | nil => exact ⟨rfl, hJ⟩
  | cons x xs ih =>
    obtain ⟨e, j⟩ := h st hJ x List.mem_cons_self
    rw [List.map_cons, forL_cons' e, List.foldl_cons]
    exact ih (step st x) j fun st' j' y hy => h st' j' y (List.mem_cons_of_mem _ hy)
@[simp] theorem ev_lturn {t : Tg} {b : EvS} {dead : List Nat} {x : D} {ss : Slots} : lturn t b dead x ss = match t x ss with
  | some ss1 => bnd (b ss1) fun o => match o with
    | .nx ss2 => ret (wipeS ss2 dead)
    | .ct ss2 => ret (wipeS ss2 dead)
    | _ => stop
  | none => stop := rfl
/-! more that simp may use -/
section
variable {k i : Nat} {ss : Slots} {a b : EvE} {r : EvA} {x y : D} {ds es : List D}
def rngM (x y : M D) : M (List D) := bnd x fun x => bnd y fun y => match x, y with
  | .int i, .int j => if wide i && wide j then ret (rng i j) else stop
  | _, _ => stop
@[simp] theorem ev_rngL : rngL a b ss = rngM (a ss) (b ss) := by
  funext s; unfold rngL rngM; rfl
theorem rng0 (n : Nat) : rng 0 (n : Int) = (List.range n).map fun i => .int (i : Nat) := by
  unfold rng; simp
theorem wide_nat {n : Nat} (h : n ≤ lim) : wide (n : Int) = true := by
  unfold wide lim at *
  simp; omega
theorem wide0 : wide 0 = true := rfl
theorem rngM_nat {n : Nat} (h : n ≤ lim) : rngM (ret (.int 0)) (ret (.int (n : Nat))) = ret ((List.range n).map fun i => .int (i : Nat)) := by
  unfold rngM
  rw [bnd_ret, bnd_ret]
  dsimp only
  rw [wide0, wide_nat h, rng0]; rfl
@[simp] theorem ev_wV : wV a r ss = bnd (a ss) fun d => bnd (r ss) fun as => ret (.vw 0 d :: as) := rfl
@[simp] theorem ev_wO : wO k a r ss = bnd (a ss) fun d => bnd (r ss) fun as => ret (.own k d :: as) := rfl
@[simp] theorem ev_parS {is : List Nat} : parS is r ss = bnd (r ss) fun as => if as.length = is.length then ret (.nx (setSl ss is as)) else stop := rfl
@[simp] theorem ev_dropM {e : EvM} : dropM e ss = bnd (e ss) fun r => ret (.nx r.2) := rfl
@[simp] theorem ev_setSl0 {as : List Slot} : setSl ss [] as = ss := by cases as <;> rfl
@[simp] theorem ev_setSl1 {i : Nat} {is : List Nat} {c : Slot} {as : List Slot} : setSl ss (i :: is) (c :: as) = setSl (ss.set i c) is as := rfl
end
theorem forL_pre {α : Type} {t : Tg} {b : EvS} {dead : List Nat} {ds : List D} {ss : Slots} (xs : List α) (enc : α → D) (G : List α → Slots) (hd : ds = xs.map enc) (hs : ss = G [])
    (h : ∀ pre x post, xs = pre ++ x :: post → lturn t b dead (enc x) (G pre) = ret (G (pre ++ [x]))) : forL t b dead ds ss = ret (.nx (G xs)) := by
  subst hd; subst hs
  suffices q : ∀ (post pre : List α), xs = pre ++ post → forL t b dead (post.map enc) (G pre) = ret (.nx (G xs)) from q xs [] rfl
  intro post
  induction post with
  | nil => intro pre e; rw [List.append_nil] at e; subst e; rfl
  | cons x post ih =>
    intro pre e
    rw [List.map_cons, forL_cons' (h pre x post e)]
    exact ih _ (by rw [e]; simp)
/-! lists of numbers -/
theorem asInts_mapf {α : Type} (f : α → Int) (xs : List α) : asInts (xs.map fun x => .int (f x)) = some (xs.map f) := by
  induction xs with
  | nil => rfl
  | cons x xs ih => rw [List.map_cons, asInts, ih]; rfl
theorem asBools_mapf {α : Type} (f : α → Bool) (xs : List α) : asBools (xs.map fun x => .bool (f x)) = some (xs.map f) := by
  induction xs with
  | nil => rfl
  | cons x xs ih => rw [List.map_cons, asBools, ih]; rfl
theorem all_bools {α : Type} (f : α → Bool) (xs : List α) : allD (.list (xs.map fun x => .bool (f x))) = some (.bool (xs.all f)) := by
  simp [allD, listed, asBools_mapf, List.all_map]
theorem sum_ints {α : Type} (f : α → Int) (xs : List α) : sumD (.list (xs.map fun x => .int (f x))) = some (.int (xs.map f).sum) := by
  simp [sumD, listed, asInts_mapf]
theorem canAll_ints {α : Type} (f : α → Int) : ∀ xs : List α, PyData.canLayAll0 (xs.map fun x => .int (f x)) = true
  | [] => by simp [PyData.canLayAll0]
  | x :: xs => by simp [PyData.canLayAll0, PyData.canLay0, canAll_ints f xs]
theorem depAll_ints {α : Type} (f : α → Int) : ∀ xs : List α, PyData.depthAll (xs.map fun x => .int (f x)) = 0
  | [] => by simp [PyData.depthAll]
  | x :: xs => by simp [PyData.depthAll, PyData.depth, depAll_ints f xs]
theorem shaped_ti {α : Type} (f : α → Int) (xs : List α) : SeqAt.shaped (.tuple (xs.map fun x => .int (f x))) = true := by
  unfold SeqAt.shaped PyData.canLay0 PyData.depth; rw [canAll_ints, depAll_ints]; rfl
theorem shaped_li {α : Type} (f : α → Int) (xs : List α) : SeqAt.shaped (.list (xs.map fun x => .int (f x))) = true := by
  unfold SeqAt.shaped PyData.canLay0 PyData.depth; rw [canAll_ints, depAll_ints]; rfl
theorem in_ti {α : Type} (k : Int) (f : α → Int) (xs : List α) : inS (.int k) (.tuple (xs.map fun x => .int (f x))) = some (.bool (xs.any fun x => f x == k)) := by
  unfold inS
  dsimp only
  rw [shaped_int, shaped_ti]
  simp [List.any_map, Function.comp_def, eqv_int]
theorem in_li {α : Type} (k : Int) (f : α → Int) (xs : List α) : inS (.int k) (.list (xs.map fun x => .int (f x))) = some (.bool (xs.any fun x => f x == k)) := by
  unfold inS
  dsimp only
  rw [shaped_int, shaped_li]
  simp [List.any_map, Function.comp_def, eqv_int]
theorem nin_ti {α : Type} (k : Int) (f : α → Int) (xs : List α) : ninS (.int k) (.tuple (xs.map fun x => .int (f x))) = some (.bool (!xs.any fun x => f x == k)) := by
  unfold ninS
  dsimp only
  rw [shaped_int, shaped_ti]
  simp [List.any_map, Function.comp_def, eqv_int]
theorem nin_li {α : Type} (k : Int) (f : α → Int) (xs : List α) : ninS (.int k) (.list (xs.map fun x => .int (f x))) = some (.bool (!xs.any fun x => f x == k)) := by
  unfold ninS
  dsimp only
  rw [shaped_int, shaped_li]
  simp [List.any_map, Function.comp_def, eqv_int]
theorem eqv_li0 (xs : List D) : PyData.eqv (.list xs) (.list []) = xs.isEmpty := by
  cases xs <;> simp [PyData.eqv, PyData.eqvAll]
theorem eq_li0 {α : Type} (f : α → Int) (xs : List α) : eqD (.list (xs.map fun x => .int (f x))) (.list []) = some (.bool xs.isEmpty) := by
  unfold eqD
  rw [shaped_li, show SeqAt.shaped (.list []) = true from shaped_li (α := Int) id [], eqv_li0]
  simp
theorem ne_li0 {α : Type} (f : α → Int) (xs : List α) : neD (.list (xs.map fun x => .int (f x))) (.list []) = some (.bool (!xs.isEmpty)) := by
  unfold neD
  rw [shaped_li, show SeqAt.shaped (.list []) = true from shaped_li (α := Int) id [], eqv_li0]
  simp
theorem shaped_str {s : Str} (h : PyData.canLay0 (.str s) = true) : SeqAt.shaped (.str s) = true := by
  unfold SeqAt.shaped; rw [h]; simp [PyData.depth]
theorem eq_str {a b : Str} (ha : PyData.canLay0 (.str a) = true) (hb : PyData.canLay0 (.str b) = true) : eqD (.str a) (.str b) = some (.bool (a == b)) := by
  unfold eqD; rw [shaped_str ha, shaped_str hb]; simp [PyData.eqv]
theorem ne_str {a b : Str} (ha : PyData.canLay0 (.str a) = true) (hb : PyData.canLay0 (.str b) = true) : neD (.str a) (.str b) = some (.bool (!(a == b))) := by
  unfold neD; rw [shaped_str ha, shaped_str hb]; simp [PyData.eqv]
theorem in_str1 {a b : Str} (ha : PyData.canLay0 (.str a) = true) (hb : PyData.canLay0 (.str b) = true) : inS (.str a) (.tuple [.str b]) = some (.bool (b == a)) := by
  have : SeqAt.shaped (.tuple [.str b]) = true := by
    simp [SeqAt.shaped, PyData.depth, PyData.depthAll, PyData.canLay0, PyData.canLayAll0] at hb ⊢; exact hb
  unfold inS
  dsimp only
  rw [shaped_str ha, this]; simp [PyData.eqv]
/-! rows of zeros and ones -/
@[simp] theorem eB_1 (v i : Nat) : eqD (eB v i) (.int 1) = some (.bool (v.testBit i)) := by
  unfold eB bit; rw [eq_int]; cases v.testBit i <;> rfl
theorem perm_map {α β : Type} (f : α → β) {l m : List β} (h : l.Perm m) : ∀ B : List α, m = B.map f → ∃ B' : List α, B'.Perm B ∧ l = B'.map f := by
  induction h with
  | nil => intro B e; (cases B with | nil => exact ⟨[], .refl _, rfl⟩ | cons => cases e)
  | cons x h ih =>
    intro B e
    cases B with
    | nil => cases e
    | cons b B =>
      obtain ⟨e1, e2⟩ := List.cons.inj e
      obtain ⟨B', h1, h2⟩ := ih B e2
      exact ⟨b :: B', h1.cons b, by rw [List.map_cons, h2, e1]⟩
  | swap x y l =>
    intro B e
    match B, e with
    | [], e => cases e
    | [_], e => cases e
    | b :: c :: B, e =>
      obtain ⟨e1, e2⟩ := List.cons.inj e
      obtain ⟨e3, e4⟩ := List.cons.inj e2
      exact ⟨c :: b :: B, .swap _ _ _, by rw [List.map_cons, List.map_cons, e1, e3, e4]⟩
  | trans h1 h2 ih1 ih2 =>
    intro B e
    have w := ih2 B e
    have ⟨B1, q1, q2⟩ := w
    have ⟨B2, q3, q4⟩ := ih1 B1 q2
    exact ⟨B2, q3.trans q1, q4⟩
theorem asInts_id (ns : List Int) : asInts (ns.map .int) = some ns := by
  have := asInts_mapf (fun i : Int => i) ns
  rwa [List.map_id'] at this
theorem asTups_map {α : Type} (f : α → List Int) : ∀ xs : List α, (∀ x ∈ xs, f x ≠ []) → asTups (xs.map fun x => tupI (f x)) = some (xs.map f)
  | [], _ => rfl
  | x :: xs, h => by
    rw [List.map_cons, tupI, asTups, asInts_id]
    simp only [Option.bind_some]
    rw [if_neg (h x List.mem_cons_self), asTups_map f xs fun z hz => h z (List.mem_cons_of_mem _ hz)]
    rfl
theorem sortTR_map {α : Type} (f : α → List Int) {xs : List α} (h : ∀ x ∈ xs, f x ≠ []) : ∃ ys : List α, ys.Perm xs ∧ sortTR (.list (xs.map fun x => tupI (f x))) = some (.list (ys.map fun x => tupI (f x))) := by
  obtain ⟨ys, p, e⟩ := perm_map f ((List.reverse_perm _).trans (isortL_perm (xs.map f))) xs rfl
  refine ⟨ys, p, ?_⟩
  unfold sortTR
  dsimp only
  rw [asTups_map f xs h]
  simp only [Option.map_some]
  rw [e, List.map_map]; rfl
theorem bits_of : ∀ ys : List Int, (∀ y ∈ ys, y = 0 ∨ y = 1) → ∃ v, v < 2 ^ ys.length ∧ ys = (List.range ys.length).map (bit v) := by
  intro ys
  induction ys with
  | nil => intro _; exact ⟨0, by simp, rfl⟩
  | cons y ys ih =>
    intro h
    obtain ⟨v, h1, h2⟩ := ih fun z hz => h z (List.mem_cons_of_mem _ hz)
    refine ⟨2 * v + (if y = 1 then 1 else 0), ?_, ?_⟩
    · rw [List.length_cons, Nat.pow_succ]; split <;> omega
    · rw [List.length_cons, List.range_succ_eq_map, List.map_cons, List.map_map]
      congr 1
      · unfold bit
        rcases h y List.mem_cons_self with e | e <;> subst e <;> simp [Nat.testBit_zero]
      · conv => lhs; rw [h2]
        apply List.map_congr_left
        intro i _
        unfold bit
        simp only [Function.comp]
        congr 2
        rw [Nat.testBit_succ]
        congr 1
        split <;> omega
@[simp] theorem lim_1 : 1 ≤ lim := by decide
@[simp] theorem lim_2 : 2 ≤ lim := by decide
@[simp] theorem lim_3 : 3 ≤ lim := by decide
@[simp] theorem lim_4 : 4 ≤ lim := by decide
@[simp] theorem lim_5 : 5 ≤ lim := by decide
@[simp] theorem lim_6 : 6 ≤ lim := by decide
@[simp] theorem lim_7 : 7 ≤ lim := by decide
@[simp] theorem lim_8 : 8 ≤ lim := by decide
@[simp] theorem lim_9 : 9 ≤ lim := by decide
@[simp] theorem lim_10 : 10 ≤ lim := by decide
@[simp] theorem lim_11 : 11 ≤ lim := by decide
@[simp] theorem lim_12 : 12 ≤ lim := by decide
@[simp] theorem lim_19 : 19 ≤ lim := by decide
@[simp] theorem lim_20 : 20 ≤ lim := by decide
@[simp] theorem add_int (a b : Int) : addD (.int a) (.int b) = some (.int (a + b)) := rfl
@[simp] theorem sub_int (a b : Int) : subD (.int a) (.int b) = some (.int (a - b)) := rfl
@[simp] theorem lt_int (a b : Int) : ltD (.int a) (.int b) = some (.bool (decide (a < b))) := rfl
@[simp] theorem le_int (a b : Int) : leD (.int a) (.int b) = some (.bool (decide (a ≤ b))) := rfl
@[simp] theorem gt_int (a b : Int) : gtD (.int a) (.int b) = some (.bool (decide (b < a))) := rfl
@[simp] theorem ge_int (a b : Int) : geD (.int a) (.int b) = some (.bool (decide (b ≤ a))) := rfl
theorem add_lst {a b : List D} (h : a.length + b.length ≤ lim) : addD (.list a) (.list b) = some (.list (a ++ b)) := by show (if _ then _ else _) = _; rw [if_pos h]
theorem add_tup {a b : List D} (h : a.length + b.length ≤ lim) : addD (.tuple a) (.tuple b) = some (.tuple (a ++ b)) := by show (if _ then _ else _) = _; rw [if_pos h]
theorem eqv_bool (a b : Bool) : PyData.eqv (.bool a) (.bool b) = (a == b) := by unfold PyData.eqv; rfl
@[simp] theorem ne_bool (a b : Bool) : neD (.bool a) (.bool b) = some (.bool (a != b)) := by
  have h : ∀ c : Bool, SeqAt.shaped (.bool c) = true := fun c => by simp [SeqAt.shaped, PyData.depth, PyData.canLay0]
  unfold neD; rw [h, h, eqv_bool]; rfl
theorem in_tI (k : Int) (l : List Int) : inS (.int k) (.tuple (l.map .int)) = some (.bool (l.contains k)) := by
  have := in_ti k (fun i : Int => i) l
  rw [this]
  clear this
  congr 2
  induction l with
  | nil => rfl
  | cons a l ih => rw [List.any_cons, List.contains_cons, ih]; congr 1; rw [Bool.eq_iff_iff]; simp only [beq_iff_eq]; exact eq_comm
theorem at_nat {ds : List D} {i : Nat} (h : i < ds.length) : at_ ds (i : Int) = ds[i]? := by
  unfold at_ ixN
  rw [if_pos (by omega), if_pos (by omega)]
  rfl
@[simp] theorem ix_t0 (a : D) (l : List D) : ixS (.tuple (a :: l)) (.int 0) = some a := by
  show at_ _ ((0 : Nat) : Int) = _
  rw [at_nat (by simp)]; rfl
@[simp] theorem ix_t1 (a b : D) (l : List D) : ixS (.tuple (a :: b :: l)) (.int 1) = some b := by
  show at_ _ ((1 : Nat) : Int) = _
  rw [at_nat (by simp)]; rfl
@[simp] theorem ix_l0 (a : D) (l : List D) : ixS (.list (a :: l)) (.int 0) = some a := by
  show at_ _ ((0 : Nat) : Int) = _
  rw [at_nat (by simp)]; rfl
@[simp] theorem ix_l1 (a b : D) (l : List D) : ixS (.list (a :: b :: l)) (.int 1) = some b := by
  show at_ _ ((1 : Nat) : Int) = _
  rw [at_nat (by simp)]; rfl
theorem ix_tn {ds : List D} {i : Nat} (h : i < ds.length) : ixS (.tuple ds) (.int (i : Nat)) = ds[i]? := at_nat h
theorem ix_ln {ds : List D} {i : Nat} (h : i < ds.length) : ixS (.list ds) (.int (i : Nat)) = ds[i]? := at_nat h
@[simp] theorem nn_none : notNoneD .none .none = some (.bool false) := rfl
@[simp] theorem nn_int (i : Int) : notNoneD (.int i) .none = some (.bool true) := rfl
@[simp] theorem nn_tup (l : List D) : notNoneD (.tuple l) .none = some (.bool true) := rfl
@[simp] theorem nn_lst (l : List D) : notNoneD (.list l) .none = some (.bool true) := rfl
@[simp] theorem len_tup (l : List D) : lenD (.tuple l) = some (.int (l.length : Nat)) := rfl
@[simp] theorem len_lst (l : List D) : lenD (.list l) = some (.int (l.length : Nat)) := rfl
theorem eRs_len (n : Nat) (vs : List Nat) : (eRs n vs).length = vs.length := by simp [eRs]
theorem mod_pos (a : Int) {b : Int} (h : 0 < b) : modD (.int a) (.int b) = some (.int (a % b)) := by
  show (if _ then _ else _) = _; rw [if_pos h]
theorem fdiv_pos (a : Int) {b : Int} (h : 0 < b) (h2 : b.natAbs < 1073741824) : fdivD (.int a) (.int b) = some (.int (a / b)) := by
  show (if _ then _ else _) = _; rw [if_pos ⟨h, h2⟩]
theorem mul_sml (a : Int) {b : Int} (h : small b = true) : mulD (.int a) (.int b) = some (.int (a * b)) := by
  show (if _ then _ else _) = _; rw [if_pos (by rw [h]; simp)]
theorem max_2 (a b : Int) : max2 (.int a) (.int b) = some (.int (if b > a then b else a)) := rfl
theorem small_of_lt {a : Int} (h : a.natAbs < 2 ^ 64) : small a = true := decide_eq_true h
end Ev
end

section
set_option linter.all false
set_option Elab.async false
set_option maxRecDepth 100000
/-! Small values, and that they can be shown. -/
namespace Ev
open PySem
mutual
/-- numbers of at most m, texts of small signs, no dict with things in it -/
def okV (m : Nat) : D → Bool
  | .none => true
  | .bool _ => true
  | .int i => decide (i.natAbs ≤ m)
  | .str s => (PyData.canLay0 (.str s) && PyData.canLay0 (.str (reprText s))) && s.cps.toList.all fun c => decide (c < 16 ^ 8)
  | .list xs => okVs m xs
  | .tuple xs => okVs m xs
  | .dict kvs => kvs.isEmpty
def okVs (m : Nat) : List D → Bool
  | [] => true
  | x :: xs => okV m x && okVs m xs
end
theorem okVs_iff {m : Nat} : ∀ {xs : List D}, okVs m xs = true ↔ ∀ x ∈ xs, okV m x = true
  | [] => by simp [okVs]
  | x :: xs => by simp [okVs, okVs_iff (xs := xs)]
theorem depAll_le {k : Nat} : ∀ {xs : List D}, PyData.depthAll xs ≤ k ↔ ∀ x ∈ xs, x.depth ≤ k
  | [] => by simp [PyData.depthAll]
  | x :: xs => by simp [PyData.depthAll, Nat.max_le, depAll_le (xs := xs)]
theorem bulk_app : ∀ {xs ys : List D}, PyData.bulkAll (xs ++ ys) = PyData.bulkAll xs + PyData.bulkAll ys
  | [], ys => by simp [PyData.bulkAll]
  | x :: xs, ys => by simp [PyData.bulkAll, bulk_app (xs := xs)]; omega
theorem bulk_len : ∀ {xs : List D}, xs.length ≤ PyData.bulkAll xs
  | [] => by simp
  | x :: xs => by have := bulk_len (xs := xs); simp [PyData.bulkAll]; omega
theorem bulk_perm {xs ys : List D} (h : xs.Perm ys) : PyData.bulkAll xs = PyData.bulkAll ys := by
  induction h with
  | nil => rfl
  | cons x _ ih => simp [PyData.bulkAll, ih]
  | swap x y l => simp [PyData.bulkAll]; omega
  | trans _ _ a b => exact a.trans b
theorem bulk_sub {xs ys : List D} (h : xs.Sublist ys) : PyData.bulkAll xs ≤ PyData.bulkAll ys := by
  induction h with
  | slnil => exact Nat.le_refl _
  | cons x _ ih => simp [PyData.bulkAll]; omega
  | cons_cons x _ ih => simp [PyData.bulkAll]; omega
theorem bulk_mem {x : D} {xs : List D} (h : x ∈ xs) : x.bulk + 1 ≤ PyData.bulkAll xs := by
  have := bulk_sub (List.singleton_sublist.2 h)
  simpa [PyData.bulkAll] using this
/-- values of at most w parts, depth k, numbers of at most m -/
structure Vl (w k m : Nat) (v : D) : Prop where
  b : v.bulk ≤ w
  d : v.depth ≤ k
  o : okV m v = true
structure VlL (w k m : Nat) (xs : List D) : Prop where
  b : PyData.bulkAll xs ≤ w
  d : ∀ x ∈ xs, x.depth ≤ k
  o : ∀ x ∈ xs, okV m x = true
section
variable {w k m w' k' m' : Nat} {d x : D} {xs ys : List D}
mutual
theorem okV_mono (hm : m ≤ m') : ∀ d : D, okV m d = true → okV m' d = true
  | .none, _ => rfl
  | .bool _, _ => rfl
  | .int i, h => by unfold okV at *; simp at *; omega
  | .str s, h => h
  | .list xs, h => by unfold okV at *; exact okVs_mono hm xs h
  | .tuple xs, h => by unfold okV at *; exact okVs_mono hm xs h
  | .dict kvs, h => h
theorem okVs_mono (hm : m ≤ m') : ∀ xs : List D, okVs m xs = true → okVs m' xs = true
  | [], _ => rfl
  | x :: xs, h => by
    unfold okVs at *
    rw [Bool.and_eq_true] at *
    exact ⟨okV_mono hm x h.1, okVs_mono hm xs h.2⟩
end
theorem Vl.mono (h : Vl w k m d) (hw : w ≤ w') (hk : k ≤ k') (hm : m ≤ m') : Vl w' k' m' d := ⟨Nat.le_trans h.b hw, Nat.le_trans h.d hk, okV_mono hm d h.o⟩
theorem VlL.tup (h : VlL w k m xs) : Vl w (k + 1) m (.tuple xs) := ⟨by simpa [PyData.bulk] using h.b, by simp [PyData.depth]; exact depAll_le.2 h.d, by unfold okV; exact okVs_iff.2 h.o⟩
theorem VlL.lst (h : VlL w k m xs) : Vl w (k + 1) m (.list xs) := ⟨by simpa [PyData.bulk] using h.b, by simp [PyData.depth]; exact depAll_le.2 h.d, by unfold okV; exact okVs_iff.2 h.o⟩
theorem Vl.tup (h : Vl w (k + 1) m (.tuple xs)) : VlL w k m xs := ⟨by simpa [PyData.bulk] using h.b, by have := h.d; simp [PyData.depth] at this; exact depAll_le.1 this, by have := h.o; unfold okV at this; exact okVs_iff.1 this⟩
theorem VlL.nil : VlL w k m [] := ⟨by simp [PyData.bulkAll], fun _ h => (by cases h), fun _ h => (by cases h)⟩
theorem VlL.app (h : VlL w k m xs) (h' : VlL w' k m ys) : VlL (w + w') k m (xs ++ ys) := ⟨by rw [bulk_app]; exact Nat.add_le_add h.b h'.b, fun x hx => (List.mem_append.1 hx).elim (h.d x) (h'.d x), fun x hx => (List.mem_append.1 hx).elim (h.o x) (h'.o x)⟩
theorem VlL.one (h : Vl w k m d) : VlL (w + 1) k m [d] := ⟨by simp [PyData.bulkAll]; exact h.b, fun x hx => by rw [List.mem_singleton] at hx; subst hx; exact h.d, fun x hx => by rw [List.mem_singleton] at hx; subst hx; exact h.o⟩
theorem VlL.cons (h : Vl w k m d) (h' : VlL w' k m xs) : VlL (w + 1 + w') k m (d :: xs) := (VlL.one h).app h'
theorem VlL.mono (h : VlL w k m xs) (hw : w ≤ w') (hk : k ≤ k') (hm : m ≤ m') : VlL w' k' m' xs := ⟨Nat.le_trans h.b hw, fun x hx => Nat.le_trans (h.d x hx) hk, fun x hx => okV_mono hm x (h.o x hx)⟩
theorem VlL.sub (h : VlL w k m xs) (s : ys.Sublist xs) : VlL w k m ys := ⟨Nat.le_trans (bulk_sub s) h.b, fun x hx => h.d x (s.subset hx), fun x hx => h.o x (s.subset hx)⟩
theorem VlL.rev (h : VlL w k m xs) : VlL w k m xs.reverse := ⟨by rw [bulk_perm (List.reverse_perm xs)]; exact h.b, fun x hx => h.d x (List.mem_reverse.1 hx), fun x hx => h.o x (List.mem_reverse.1 hx)⟩
theorem VlL.len (h : VlL w k m xs) : xs.length ≤ w := Nat.le_trans bulk_len h.b
theorem VlL.mem (h : VlL w k m xs) (hx : x ∈ xs) : Vl w k m x := ⟨by have := bulk_mem hx; have := h.b; omega, h.d x hx, h.o x hx⟩
mutual
theorem okV_short (hm : m < 10 ^ 12) : ∀ d : D, okV m d = true → d.leavesShort 13 = true ∧ d.showable = true
  | .none, _ => by simp [PyData.leavesShort, PyData.showable]
  | .bool _, _ => by simp [PyData.leavesShort, PyData.showable]
  | .int i, h => by
    unfold okV at h
    have h' : i.natAbs ≤ m := of_decide_eq_true h
    have h2 : i.natAbs < 2 ^ 40 := Nat.lt_of_le_of_lt h' (Nat.lt_trans hm (by decide))
    have h3 : i.natAbs.log2 < 1920 := by
      by_cases h0 : i.natAbs = 0
      · rw [h0]; decide
      · have := (Nat.log2_lt h0).2 h2; omega
    simp only [PyData.leavesShort, PyData.showable]
    exact ⟨decide_eq_true (PyData.shown_int_le (Nat.lt_of_le_of_lt h' hm)), decide_eq_true h3⟩
  | .str s, h => by
    unfold okV at h
    rw [Bool.and_eq_true] at h
    simp only [PyData.leavesShort, PyData.showable]
    exact ⟨h.2, trivial⟩
  | .list xs, h => by
    unfold okV at h
    have := okVs_short hm xs h
    simp only [PyData.leavesShort, PyData.showable]
    exact this
  | .tuple xs, h => by
    unfold okV at h
    have := okVs_short hm xs h
    simp only [PyData.leavesShort, PyData.showable]
    exact this
  | .dict kvs, h => by
    unfold okV at h
    cases kvs with
    | nil => simp [PyData.leavesShort, PyData.showable, PyData.leavesShortKv, PyData.showableKv]
    | cons => cases h
theorem okVs_short (hm : m < 10 ^ 12) : ∀ xs : List D, okVs m xs = true → PyData.leavesShortAll 13 xs = true ∧ PyData.showableAll xs = true
  | [], _ => by simp [PyData.leavesShortAll, PyData.showableAll]
  | x :: xs, h => by
    unfold okVs at h
    rw [Bool.and_eq_true] at h
    have h1 := okV_short hm x h.1
    have h2 := okVs_short hm xs h.2
    simp [PyData.leavesShortAll, PyData.showableAll, h1, h2]
end
theorem Vl.repr (h : Vl w k m d) (hw : w ≤ 1000000) (hk : k ≤ 60) (hm : m < 10 ^ 12) : reprD d = some (.str d.shown) := by
  obtain ⟨h1, h2⟩ := okV_short hm d h.o
  have h3 := PyData.shown_le_bulk 13 (by decide) d h1
  have h4 : d.shown.length ≤ lim := by have := h.b; unfold lim; omega
  unfold reprD
  rw [h2, decide_eq_true (Nat.le_trans h.d hk), decide_eq_true h4]
  rfl
end
abbrev sOk (s : Str) : Prop := PyData.canLay0 (.str s) = true
theorem sOk_iff {s : Str} : sOk s ↔ ∀ c ∈ s.cps.toList, c < 0x110000 := by
  unfold sOk PyData.canLay0 PyData.strOk
  rw [Array.all_eq_true_iff_forall_mem]
  simp
theorem sOk_of (s : String) : sOk (Str.ofString s) := by
  rw [sOk_iff, Str.ofString_eq_toList]
  intro c hc
  simp at hc
  obtain ⟨a, _, rfl⟩ := hc
  have h := a.valid
  simp only [UInt32.isValidChar, Nat.isValidChar] at h
  show a.val.toNat < _
  omega
theorem sOk_app {a b : Str} (ha : sOk a) (hb : sOk b) : sOk (a ++ b) := by
  rw [sOk_iff] at *
  intro c hc
  have : (a ++ b).cps = a.cps ++ b.cps := rfl
  rw [this] at hc
  simp at hc
  rcases hc with h | h
  · exact ha c (by simpa using h)
  · exact hb c (by simpa using h)
theorem sOk_from : ∀ (ts : List Str) (k : Nat) (acc : Str), sOk acc → (∀ t ∈ ts, sOk t) → sOk (textFrom k acc ts)
  | [], _, _, h, _ => h
  | t :: ts, k, acc, h, ht => by
    unfold textFrom
    exact sOk_from ts _ _ (sOk_app (sOk_app h (sOk_of _)) (ht t List.mem_cons_self)) fun u hu => ht u (List.mem_cons_of_mem _ hu)
theorem sOk_join : ∀ ts : List Str, (∀ t ∈ ts, sOk t) → sOk (Str.join ", " ts)
  | [], _ => sOk_of ""
  | [t], h => h t List.mem_cons_self
  | t :: u :: ts, h => by
    unfold Str.join
    exact sOk_app (sOk_app (h t List.mem_cons_self) (sOk_of ", ")) (sOk_join (u :: ts) fun v hv => h v (List.mem_cons_of_mem _ hv))
mutual
theorem shown_sOk {m : Nat} : ∀ d : D, okV m d = true → sOk d.shown
  | .none, _ => sOk_of "None"
  | .bool b, _ => by cases b <;> exact sOk_of _
  | .int i, _ => sOk_of _
  | .str s, h => by
    unfold okV at h
    rw [Bool.and_eq_true, Bool.and_eq_true] at h
    exact h.1.2
  | .list xs, h => by
    unfold okV at h
    unfold PyData.shown listText
    exact sOk_app (sOk_from _ _ _ (sOk_of "[") (shownAll_sOk xs h)) (sOk_of "]")
  | .tuple xs, h => by
    unfold okV at h
    unfold PyData.shown tupleText
    exact sOk_app (sOk_app (sOk_of "(") (sOk_join _ (shownAll_sOk xs h))) (sOk_of _)
  | .dict kvs, h => by
    unfold okV at h
    cases kvs with
    | nil => show sOk (dictText (PyData.shownKv [])); unfold dictText PyData.shownKv; exact sOk_app (sOk_app (sOk_of "{") (sOk_join [] fun _ h => by cases h)) (sOk_of "}")
    | cons => cases h
theorem shownAll_sOk {m : Nat} : ∀ xs : List D, okVs m xs = true → ∀ t ∈ PyData.shownAll xs, sOk t
  | [], _, t, ht => by simp [PyData.shownAll] at ht
  | x :: xs, h, t, ht => by
    unfold okVs at h
    rw [Bool.and_eq_true] at h
    unfold PyData.shownAll at ht
    rcases List.mem_cons.1 ht with e | e
    · rw [e]; exact shown_sOk x h.1
    · exact shownAll_sOk xs h.2 t e
end
theorem ne_same {s : Str} (h : sOk s) : neD (.str s) (.str s) = some (.bool false) := by
  rw [ne_str h h]; simp
theorem eq_same {s : Str} (h : sOk s) : eqD (.str s) (.str s) = some (.bool true) := by
  rw [eq_str h h]; simp
end Ev
end

section
set_option linter.all false
set_option Elab.async false
/-! Rows of zeros and ones as numbers: sums are xor. -/
namespace Gf
theorem xx (a b : Nat) : a ^^^ b ^^^ b = a := by rw [Nat.xor_assoc, Nat.xor_self, Nat.xor_zero]
theorem xswap (a b c : Nat) : a ^^^ b ^^^ c = a ^^^ c ^^^ b := by rw [Nat.xor_assoc, Nat.xor_comm b, ← Nat.xor_assoc]
theorem x_eq {a b : Nat} (h : a ^^^ b = 0) : a = b := by
  have := xx a b; rw [h, Nat.zero_xor] at this; exact this.symm
theorem bext {n a b : Nat} (ha : a < 2 ^ n) (hb : b < 2 ^ n) (h : ∀ i, i < n → a.testBit i = b.testBit i) : a = b := by
  apply Nat.eq_of_testBit_eq
  intro i
  by_cases hi : i < n
  · exact h i hi
  · have p : 2 ^ n ≤ 2 ^ i := Nat.pow_le_pow_right (by decide) (by omega)
    rw [Nat.testBit_lt_two_pow (by omega), Nat.testBit_lt_two_pow (by omega)]
theorem xlt {n a b : Nat} (ha : a < 2 ^ n) (hb : b < 2 ^ n) : a ^^^ b < 2 ^ n := Nat.xor_lt_two_pow ha hb
/-- the sums of some of the rows -/
def sp : List Nat → Nat → Prop
  | [], v => v = 0
  | b :: B, v => sp B v ∨ sp B (v ^^^ b)
theorem sp0 : ∀ B, sp B 0
  | [] => rfl
  | _ :: B => .inl (sp0 B)
theorem spx : ∀ {B u v}, sp B u → sp B v → sp B (u ^^^ v)
  | [], u, v, hu, hv => by cases hu; cases hv; rfl
  | b :: B, u, v, hu, hv => by
    rcases hu with hu | hu <;> rcases hv with hv | hv
    · exact .inl (spx hu hv)
    · right; have := spx hu hv; rwa [← Nat.xor_assoc] at this
    · right; have := spx hu hv; rwa [xswap] at this
    · left; have := spx hu hv; rwa [← Nat.xor_assoc, xswap u b v, xx] at this
theorem spm : ∀ {B v}, v ∈ B → sp B v
  | b :: B, v, h => by
    rcases List.mem_cons.1 h with h | h
    · subst h; right; rw [Nat.xor_self]; exact sp0 B
    · exact .inl (spm h)
theorem sps {C : List Nat} : ∀ {B v}, (∀ b ∈ B, sp C b) → sp B v → sp C v
  | [], v, _, h => by cases h; exact sp0 C
  | b :: B, v, hB, h => by
    have hb := hB b List.mem_cons_self
    have hr : ∀ c ∈ B, sp C c := fun c hc => hB c (List.mem_cons_of_mem _ hc)
    rcases h with h | h
    · exact sps hr h
    · have := spx (sps hr h) hb; rwa [xx] at this
theorem sp_lt {n : Nat} : ∀ {B v}, (∀ b ∈ B, b < 2 ^ n) → sp B v → v < 2 ^ n
  | [], v, _, h => by cases h; exact Nat.two_pow_pos n
  | b :: B, v, hB, h => by
    have hb := hB b List.mem_cons_self
    have hr : ∀ c ∈ B, c < 2 ^ n := fun c hc => hB c (List.mem_cons_of_mem _ hc)
    rcases h with h | h
    · exact sp_lt hr h
    · have := xlt (sp_lt hr h) hb; rwa [xx] at this
theorem sp_bit {i : Nat} : ∀ {B v}, (∀ b ∈ B, b.testBit i = false) → sp B v → v.testBit i = false
  | [], v, _, h => by cases h; exact Nat.zero_testBit i
  | b :: B, v, hB, h => by
    have hb := hB b List.mem_cons_self
    have hr : ∀ c ∈ B, c.testBit i = false := fun c hc => hB c (List.mem_cons_of_mem _ hc)
    rcases h with h | h
    · exact sp_bit hr h
    · have := sp_bit hr h; rw [Nat.testBit_xor, hb] at this; simpa using this
/-- the same sums -/
def Eq2 (B C : List Nat) : Prop := ∀ v, sp B v ↔ sp C v
theorem Eq2.of {B C : List Nat} (h : ∀ b ∈ B, sp C b) (k : ∀ c ∈ C, sp B c) : Eq2 B C := fun v => ⟨sps h, sps k⟩
theorem Eq2.refl (B : List Nat) : Eq2 B B := fun _ => Iff.rfl
theorem Eq2.symm {B C : List Nat} (h : Eq2 B C) : Eq2 C B := fun v => (h v).symm
theorem Eq2.trans {A B C : List Nat} (h : Eq2 A B) (k : Eq2 B C) : Eq2 A C := fun v => (h v).trans (k v)
/-- the place of the first one -/
def lo (n v : Nat) : Nat := ((List.range n).find? v.testBit).getD n
theorem lo_some {n v : Nat} (h0 : v ≠ 0) (hv : v < 2 ^ n) : lo n v < n ∧ v.testBit (lo n v) = true ∧ ∀ j < lo n v, v.testBit j = false := by
  unfold lo
  cases e : (List.range n).find? v.testBit with
  | none =>
    rw [List.find?_eq_none] at e
    exact absurd (bext hv (Nat.two_pow_pos n) fun i hi => by
      have := e i (List.mem_range.2 hi)
      rw [Nat.zero_testBit]; simpa using this) h0
  | some k =>
    have h1 := List.mem_range.1 (List.mem_of_find?_eq_some e)
    refine ⟨h1, List.find?_some e, fun j hj => ?_⟩
    simp only [Option.getD_some] at hj
    rw [List.find?_eq_some_iff_append] at e
    obtain ⟨_, as, bs, hs, hn⟩ := e
    have hk : as.length = k := by
      have h3 := congrArg (fun l => l[as.length]?) hs
      simp only [List.getElem?_append_right (Nat.le_refl _), Nat.sub_self, List.getElem?_cons_zero] at h3
      rw [List.getElem?_eq_some_iff] at h3
      obtain ⟨_, h3⟩ := h3
      simpa using h3
    have h4 : j ∈ as := by
      have h3 := congrArg (fun l => l[j]?) hs
      simp only [List.getElem?_append_left (show j < as.length by omega)] at h3
      rw [List.getElem?_range (by omega)] at h3
      exact List.mem_of_getElem? h3.symm
    have := hn j h4
    simpa using this
theorem lo_is {n v k : Nat} (hk : k < n) (h1 : v.testBit k = true) (h2 : ∀ j < k, v.testBit j = false) : lo n v = k := by
  unfold lo
  have : (List.range n).find? v.testBit = some k := by
    rw [List.find?_eq_some_iff_append]
    refine ⟨h1, List.range k, (List.range (n - k - 1)).map (k + 1 + ·), ?_, fun a ha => by simp [h2 a (List.mem_range.1 ha)]⟩
    have : n = k + (1 + (n - k - 1)) := by omega
    conv => lhs; rw [this]
    rw [List.range_add, List.range_add]
    simp [Function.comp_def, Nat.add_assoc]
  rw [this]; rfl
/-- each row's first one is a zero of the later ones -/
structure Tri (n : Nat) (B : List Nat) : Prop where
  lt : ∀ b ∈ B, b < 2 ^ n
  nz : ∀ b ∈ B, b ≠ 0
  pw : B.Pairwise fun b c => c.testBit (lo n b) = false
theorem Tri.tail {n b : Nat} {B : List Nat} (h : Tri n (b :: B)) : Tri n B := ⟨fun c hc => h.lt c (List.mem_cons_of_mem _ hc), fun c hc => h.nz c (List.mem_cons_of_mem _ hc), (List.pairwise_cons.1 h.pw).2⟩
theorem Tri.lo {n b : Nat} {B : List Nat} (h : Tri n B) (hb : b ∈ B) : lo n b < n ∧ b.testBit (lo n b) = true ∧ ∀ j < Gf.lo n b, b.testBit j = false := lo_some (h.nz b hb) (h.lt b hb)
/-- a sum with zeros at all the first ones is zero -/
theorem Tri.zero {n : Nat} : ∀ {B : List Nat} {v : Nat}, Tri n B → sp B v → (∀ b ∈ B, v.testBit (Gf.lo n b) = false) → v = 0
  | [], v, _, h, _ => h
  | b :: B, v, hr, h, hz => by
    have hb := List.pairwise_cons.1 hr.pw
    rcases h with h | h
    · exact hr.tail.zero h fun c hc => hz c (List.mem_cons_of_mem _ hc)
    · have h1 : (v ^^^ b).testBit (Gf.lo n b) = false := sp_bit (fun c hc => hb.1 c hc) h
      rw [Nat.testBit_xor, hz b List.mem_cons_self, (hr.lo List.mem_cons_self).2.1] at h1
      simp at h1
/-- a row less the rows whose first ones it has -/
def rdc (n : Nat) : List Nat → Nat → Nat
  | [], v => v
  | b :: B, v => rdc n B (if v.testBit (lo n b) then v ^^^ b else v)
theorem rdc_sp {n : Nat} : ∀ (B : List Nat) (v : Nat), sp B (v ^^^ rdc n B v)
  | [], v => by unfold rdc; exact Nat.xor_self v
  | b :: B, v => by
    unfold rdc
    split
    · right; have := rdc_sp (n := n) B (v ^^^ b); rwa [xswap] at this
    · left; exact rdc_sp B v
theorem rdc_lt {n : Nat} {B : List Nat} {v : Nat} (hB : ∀ b ∈ B, b < 2 ^ n) (hv : v < 2 ^ n) : rdc n B v < 2 ^ n := by
  have h := sp_lt hB (rdc_sp (n := n) B v)
  have := xlt hv h
  rwa [← Nat.xor_assoc, Nat.xor_self, Nat.zero_xor] at this
theorem rdc_keep {n i : Nat} : ∀ {B : List Nat} {v : Nat}, (∀ b ∈ B, b.testBit i = false) → (rdc n B v).testBit i = v.testBit i
  | [], v, _ => rfl
  | b :: B, v, h => by
    unfold rdc
    rw [rdc_keep fun c hc => h c (List.mem_cons_of_mem _ hc)]
    split
    · rw [Nat.testBit_xor, h b List.mem_cons_self]; simp
    · rfl
theorem Tri.rdc {n : Nat} : ∀ {B : List Nat} (v : Nat), Tri n B → ∀ b ∈ B, (rdc n B v).testBit (Gf.lo n b) = false
  | b :: B, v, hr, c, hc => by
    unfold Gf.rdc
    rcases List.mem_cons.1 hc with h | h
    · subst h
      rw [rdc_keep (List.pairwise_cons.1 hr.pw).1]
      split
      · rename_i hv; rw [Nat.testBit_xor, hv, (hr.lo List.mem_cons_self).2.1]; rfl
      · rename_i hv; simpa using hv
    · exact hr.tail.rdc _ c h
theorem Tri.sp_iff {n v : Nat} {B : List Nat} (h : Tri n B) : sp B v ↔ Gf.rdc n B v = 0 := by
  constructor
  · intro hv
    have := spx hv (rdc_sp (n := n) B v)
    rw [← Nat.xor_assoc, Nat.xor_self, Nat.zero_xor] at this
    exact h.zero this (h.rdc v)
  · intro e
    have := rdc_sp (n := n) B v
    rwa [e, Nat.xor_zero] at this
/-- each row's first one is a zero of the others -/
structure Rd (n : Nat) (B : List Nat) : Prop where
  lt : ∀ b ∈ B, b < 2 ^ n
  nz : ∀ b ∈ B, b ≠ 0
  pw : B.Pairwise fun b c => b.testBit (lo n c) = false ∧ c.testBit (lo n b) = false
theorem Rd.tri {n : Nat} {B : List Nat} (h : Rd n B) : Tri n B := ⟨h.lt, h.nz, h.pw.imp fun h => h.2⟩
theorem Rd.tail {n b : Nat} {B : List Nat} (h : Rd n (b :: B)) : Rd n B := ⟨fun c hc => h.lt c (List.mem_cons_of_mem _ hc), fun c hc => h.nz c (List.mem_cons_of_mem _ hc), (List.pairwise_cons.1 h.pw).2⟩
theorem Rd.lo {n b : Nat} {B : List Nat} (h : Rd n B) (hb : b ∈ B) : lo n b < n ∧ b.testBit (lo n b) = true ∧ ∀ j < Gf.lo n b, b.testBit j = false := lo_some (h.nz b hb) (h.lt b hb)
theorem Rd.nil {n : Nat} : Rd n [] := ⟨fun _ h => (by cases h), fun _ h => (by cases h), .nil⟩
theorem Rd.off {n : Nat} {B : List Nat} {b c : Nat} (hr : Rd n B) (hb : b ∈ B) (hc : c ∈ B) (ne : b ≠ c) : b.testBit (Gf.lo n c) = false := by
  induction B with
  | nil => cases hb
  | cons a B ih =>
    have hp := (List.pairwise_cons.1 hr.pw).1
    rcases List.mem_cons.1 hb with h | h <;> rcases List.mem_cons.1 hc with k | k
    · exact absurd (h.trans k.symm) ne
    · subst h; exact (hp c k).1
    · subst k; exact (hp b h).2
    · exact ih hr.tail h k
/-- two rows of one reduced list with the same first one are one row -/
theorem Rd.inj {n : Nat} {B : List Nat} {b c : Nat} (hr : Rd n B) (hb : b ∈ B) (hc : c ∈ B) (e : Gf.lo n b = Gf.lo n c) : b = c := Decidable.byContradiction fun ne => by
  have := hr.off hb hc ne
  rw [← e, (hr.lo hb).2.1] at this
  cases this
/-- a sum is the sum of the rows whose first ones it has -/
theorem Rd.own {n : Nat} : ∀ {B : List Nat} {v : Nat}, Rd n B → sp B v → sp (B.filter fun b => v.testBit (Gf.lo n b)) v
  | [], v, _, h => h
  | b :: B, v, hr, h => by
    have hp := List.pairwise_cons.1 hr.pw
    rcases h with h | h
    · have h1 : v.testBit (Gf.lo n b) = false := sp_bit (fun c hc => (hp.1 c hc).2) h
      rw [List.filter_cons, h1]
      exact hr.tail.own h
    · have h1 : (v ^^^ b).testBit (Gf.lo n b) = false := sp_bit (fun c hc => (hp.1 c hc).2) h
      rw [Nat.testBit_xor, (hr.lo List.mem_cons_self).2.1] at h1
      have h2 : v.testBit (Gf.lo n b) = true := by simpa using h1
      rw [List.filter_cons, h2]
      right
      have h3 := hr.tail.own h
      have h4 : (B.filter fun c => (v ^^^ b).testBit (Gf.lo n c)) = B.filter fun c => v.testBit (Gf.lo n c) := by
        apply List.filter_congr
        intro c hc
        rw [Nat.testBit_xor, (hp.1 c hc).1]; simp
      rw [h4] at h3
      exact h3
theorem min_of {α : Type} (f : α → Nat) : ∀ (l : List α), l ≠ [] → ∃ a ∈ l, ∀ b ∈ l, f a ≤ f b
  | [], h => absurd rfl h
  | [a], _ => ⟨a, List.mem_cons_self, fun b hb => by simp at hb; subst hb; exact Nat.le_refl _⟩
  | a :: c :: l, _ => by
    obtain ⟨m, hm, h⟩ := min_of f (c :: l) (by simp)
    by_cases k : f a ≤ f m
    · exact ⟨a, List.mem_cons_self, fun b hb => by
        rcases List.mem_cons.1 hb with e | e
        · subst e; exact Nat.le_refl _
        · exact Nat.le_trans k (h b e)⟩
    · exact ⟨m, List.mem_cons_of_mem _ hm, fun b hb => by
        rcases List.mem_cons.1 hb with e | e
        · subst e; omega
        · exact h b e⟩
/-- a sum's first one is the first one of a row -/
theorem Rd.lead {n v : Nat} {B : List Nat} (hr : Rd n B) (hv : sp B v) (h0 : v ≠ 0) : ∃ b ∈ B, Gf.lo n b = Gf.lo n v := by
  have ho := hr.own hv
  have hne : (B.filter fun b => v.testBit (Gf.lo n b)) ≠ [] := by
    intro e; rw [e] at ho; exact h0 ho
  obtain ⟨m, hm, hmin⟩ := min_of (Gf.lo n) _ hne
  rw [List.mem_filter] at hm
  refine ⟨m, hm.1, (lo_is (hr.lo hm.1).1 hm.2 fun j hj => ?_).symm⟩
  refine sp_bit (fun c hc => ?_) ho
  have h1 := hmin c hc
  rw [List.mem_filter] at hc
  exact (hr.lo hc.1).2.2 j (by omega)
theorem Rd.same {n : Nat} {B C : List Nat} (hB : Rd n B) (hC : Rd n C) (e : Eq2 B C) {b : Nat} (hb : b ∈ B) : b ∈ C := by
  obtain ⟨c, hc, ec⟩ := hC.lead ((e b).1 (spm hb)) (hB.nz b hb)
  have h1 : sp C (b ^^^ c) := spx ((e b).1 (spm hb)) (spm hc)
  have h2 := hC.tri.zero h1 fun d hd => by
    obtain ⟨a, ha, ea⟩ := hB.lead ((e d).2 (spm hd)) (hC.nz d hd)
    rw [Nat.testBit_xor]
    by_cases k : d = c
    · subst k; rw [(hC.lo hd).2.1, ec, (hB.lo hb).2.1]; rfl
    · rw [hC.off hc hd (Ne.symm k), ← ea]
      have : b ≠ a := by
        intro k2; subst k2; exact k (hC.inj hd hc (ea.symm.trans ec.symm))
      rw [hB.off hb ha this]; rfl
  rw [x_eq h2]; exact hc
theorem srt_eq {α : Type} (f : α → Nat) : ∀ {B C : List α}, B.Pairwise (fun a b => f a < f b) → C.Pairwise (fun a b => f a < f b) → (∀ a, a ∈ B ↔ a ∈ C) → B = C
  | [], [], _, _, _ => rfl
  | [], c :: C, _, _, h => by have := (h c).2 List.mem_cons_self; cases this
  | b :: B, [], _, _, h => by have := (h b).1 List.mem_cons_self; cases this
  | b :: B, c :: C, hB, hC, h => by
    have pb := List.pairwise_cons.1 hB
    have pc := List.pairwise_cons.1 hC
    have e : b = c := by
      rcases List.mem_cons.1 ((h b).1 List.mem_cons_self) with k | k
      · exact k
      · rcases List.mem_cons.1 ((h c).2 List.mem_cons_self) with l | l
        · exact l.symm
        · have := pc.1 b k; have := pb.1 c l; omega
    subst e
    rw [srt_eq f pb.2 pc.2 fun a => ⟨fun ha => by
      rcases List.mem_cons.1 ((h a).1 (List.mem_cons_of_mem _ ha)) with k | k
      · subst k; have := pb.1 a ha; omega
      · exact k, fun ha => by
      rcases List.mem_cons.1 ((h a).2 (List.mem_cons_of_mem _ ha)) with k | k
      · subst k; have := pc.1 a ha; omega
      · exact k⟩]
/-- by their first ones -/
abbrev Asc (n : Nat) (B : List Nat) : Prop := B.Pairwise fun a b => lo n a < lo n b
theorem Rd.uniq {n : Nat} {B C : List Nat} (hB : Rd n B) (hC : Rd n C) (e : Eq2 B C) (sB : Asc n B) (sC : Asc n C) : B = C :=
  srt_eq (Gf.lo n) sB sC fun a => ⟨fun h => hB.same hC e h, fun h => hC.same hB e.symm h⟩
end Gf
end

section
set_option linter.all false
set_option Elab.async false
/-! The program's elimination. -/
namespace Gf
/-- one more row for a reduced list -/
def tstep (n : Nat) (found : List Nat) (row : Nat) : List Nat :=
  let here := rdc n found row
  if here = 0 then found else (found.map fun b => if b.testBit (lo n here) then b ^^^ here else b) ++ [here]
theorem tstep_rd {n : Nat} {B : List Nat} {v : Nat} (hB : Rd n B) (hv : v < 2 ^ n) : Rd n (tstep n B v) := by
  unfold tstep
  dsimp only
  split
  · exact hB
  · rename_i h0
    have hl := rdc_lt (n := n) hB.lt hv
    have hz := hB.tri.rdc v
    generalize rdc n B v = h at h0 hl hz
    obtain ⟨l1, l2, l3⟩ := lo_some h0 hl
    have key : ∀ b ∈ B, lo n (if b.testBit (lo n h) then b ^^^ h else b) = lo n b ∧ (if b.testBit (lo n h) then b ^^^ h else b) < 2 ^ n ∧ (if b.testBit (lo n h) then b ^^^ h else b) ≠ 0 ∧ (if b.testBit (lo n h) then b ^^^ h else b).testBit (lo n h) = false := by
      intro b hb
      obtain ⟨m1, m2, m3⟩ := hB.lo hb
      by_cases hk : b.testBit (lo n h) = true
      · rw [if_pos hk]
        have hlt : lo n b < lo n h := by
          rcases Nat.lt_trichotomy (lo n b) (lo n h) with k | k | k
          · exact k
          · have := hz b hb; rw [k, l2] at this; cases this
          · have := m3 _ k; rw [hk] at this; cases this
        have e := lo_is (n := n) (v := b ^^^ h) (k := lo n b) m1 (by rw [Nat.testBit_xor, m2, hz b hb]; rfl) fun j hj => by
          rw [Nat.testBit_xor, m3 j hj, l3 j (by omega)]; rfl
        refine ⟨e, xlt (hB.lt b hb) hl, fun e0 => ?_, by rw [Nat.testBit_xor, hk, l2]; rfl⟩
        have := x_eq e0
        subst this
        omega
      · rw [if_neg hk]
        exact ⟨rfl, hB.lt b hb, hB.nz b hb, by simpa using hk⟩
    refine ⟨fun c hc => ?_, fun c hc => ?_, ?_⟩
    · rcases List.mem_append.1 hc with k | k
      · obtain ⟨b, hb, rfl⟩ := List.mem_map.1 k
        exact (key b hb).2.1
      · rw [List.mem_singleton.1 k]; exact hl
    · rcases List.mem_append.1 hc with k | k
      · obtain ⟨b, hb, rfl⟩ := List.mem_map.1 k
        exact (key b hb).2.2.1
      · rw [List.mem_singleton.1 k]; exact h0
    · rw [List.pairwise_append]
      refine ⟨?_, List.pairwise_singleton _ _, fun a ha c hc => ?_⟩
      · rw [List.pairwise_map]
        have hp := hB.pw
        have hb' : ∀ b ∈ B, ∀ c ∈ B, b.testBit (lo n c) = false → (if b.testBit (lo n h) then b ^^^ h else b).testBit (lo n (if c.testBit (lo n h) then c ^^^ h else c)) = false := by
          intro b hb c hc e
          rw [(key c hc).1]
          split
          · rw [Nat.testBit_xor, e, hz c hc]; rfl
          · exact e
        refine List.Pairwise.imp_of_mem (fun {b c} hb hc p => ?_) hp
        exact ⟨hb' b hb c hc p.1, hb' c hc b hb p.2⟩
      · rw [List.mem_singleton.1 hc]
        obtain ⟨b, hb, rfl⟩ := List.mem_map.1 ha
        refine ⟨(key b hb).2.2.2, ?_⟩
        rw [(key b hb).1]
        exact hz b hb
theorem tstep_eq {n : Nat} {B : List Nat} {v : Nat} : Eq2 (tstep n B v) (v :: B) := by
  have hs := rdc_sp (n := n) B v
  unfold tstep
  dsimp only
  split
  · rename_i h0
    rw [h0, Nat.xor_zero] at hs
    exact .of (fun b hb => .inl (spm hb)) fun c hc => by
      rcases List.mem_cons.1 hc with k | k
      · rw [k]; exact hs
      · exact spm k
  · generalize rdc n B v = h at hs
    have h1 : sp (v :: B) h := by right; rw [Nat.xor_comm]; exact hs
    have h2 : sp ((B.map fun b => if b.testBit (lo n h) then b ^^^ h else b) ++ [h]) h := spm (by simp)
    have h3 : ∀ b ∈ B, sp ((B.map fun b => if b.testBit (lo n h) then b ^^^ h else b) ++ [h]) b := by
      intro b hb
      have h4 : sp ((B.map fun b => if b.testBit (lo n h) then b ^^^ h else b) ++ [h]) (if b.testBit (lo n h) then b ^^^ h else b) := spm (List.mem_append_left _ (List.mem_map_of_mem hb))
      split at h4
      · have := spx h4 h2; rwa [xx] at this
      · exact h4
    refine .of (fun b hb => ?_) fun c hc => ?_
    · rcases List.mem_append.1 hb with k | k
      · obtain ⟨a, ha, rfl⟩ := List.mem_map.1 k
        have h4 : sp (v :: B) a := .inl (spm ha)
        split
        · exact spx h4 h1
        · exact h4
      · rw [List.mem_singleton.1 k]; exact h1
    · rcases List.mem_cons.1 hc with k | k
      · rw [k]
        have := spx (sps h3 hs) h2
        rwa [xx] at this
      · exact h3 c k
theorem Eq2.cons {B C : List Nat} (h : Eq2 B C) (v : Nat) : Eq2 (v :: B) (v :: C) := fun u => or_congr (h u) (h _)
theorem Eq2.perm {B C : List Nat} (h : B.Perm C) : Eq2 B C := .of (fun b hb => spm (h.mem_iff.1 hb)) fun c hc => spm (h.mem_iff.2 hc)
theorem tsteps_rd {n : Nat} : ∀ (rows : List Nat) {B : List Nat}, Rd n B → (∀ r ∈ rows, r < 2 ^ n) → Rd n (rows.foldl (tstep n) B) ∧ Eq2 (rows.foldl (tstep n) B) (rows ++ B)
  | [], B, hB, _ => ⟨hB, .refl _⟩
  | r :: rows, B, hB, hr => by
    obtain ⟨h1, h2⟩ := tsteps_rd rows (tstep_rd hB (hr r List.mem_cons_self)) fun a ha => hr a (List.mem_cons_of_mem _ ha)
    refine ⟨h1, h2.trans ?_⟩
    refine .of (fun b hb => ?_) fun c hc => ?_
    · rcases List.mem_append.1 hb with k | k
      · exact spm (by simp [k])
      · exact sps (B := r :: B) (fun a ha => spm (by rcases List.mem_cons.1 ha with e | e <;> simp [e])) ((tstep_eq b).1 (spm k))
    · have h3 : ∀ a ∈ tstep n B r, sp (rows ++ tstep n B r) a := fun a ha => spm (by simp [ha])
      rcases List.mem_cons.1 hc with k | k
      · subst k; exact sps h3 ((tstep_eq c).2 (spm List.mem_cons_self))
      · rcases List.mem_append.1 k with k | k
        · exact spm (by simp [k])
        · exact sps h3 ((tstep_eq c).2 (spm (List.mem_cons_of_mem _ k)))
end Gf
end

section
set_option linter.all false
set_option Elab.async false
/-! The law's elimination. -/
namespace Gf
def clr (p h v : Nat) : Nat := if v.testBit p then v ^^^ h else v
/-- one column: left, found -/
def lstep (st : List Nat × List Nat) (p : Nat) : List Nat × List Nat :=
  match st.1.filter (·.testBit p) with
  | [] => st
  | h :: _ => ((st.1.filter (· != h)).map (clr p h), st.2.map (clr p h) ++ [h])
structure LInv (n p : Nat) (rows : List Nat) (st : List Nat × List Nat) : Prop where
  rd : Rd n st.2
  asc : Asc n st.2
  low : ∀ b ∈ st.2, lo n b < p
  lt : ∀ b ∈ st.1, b < 2 ^ n
  z : ∀ b ∈ st.1, ∀ j < p, b.testBit j = false
  eq : Eq2 (st.1 ++ st.2) rows
theorem lstep_inv {n p : Nat} {rows : List Nat} {st : List Nat × List Nat} (hp : p < n) (I : LInv n p rows st) : LInv n (p + 1) rows (lstep st p) := by
  obtain ⟨left, found⟩ := st
  have ird := I.rd; have iasc := I.asc; have ilow := I.low; have ilt := I.lt; have iz := I.z; have ieq := I.eq
  dsimp only at ird iasc ilow ilt iz ieq
  unfold lstep
  dsimp only
  cases e : left.filter (·.testBit p) with
  | nil =>
    dsimp only
    refine ⟨ird, iasc, fun b hb => Nat.lt_succ_of_lt (ilow b hb), ilt, fun b hb j hj => ?_, ieq⟩
    rcases Nat.lt_succ_iff_lt_or_eq.1 hj with k | k
    · exact iz b hb j k
    · subst k
      rw [List.filter_eq_nil_iff] at e
      simpa using e b hb
  | cons h t =>
    dsimp only
    have hm : h ∈ left.filter (·.testBit p) := by rw [e]; exact List.mem_cons_self
    obtain ⟨hml, hp1⟩ := List.mem_filter.1 hm
    have hl := ilt h hml
    have hz := iz h hml
    have h0 : h ≠ 0 := by intro k; subst k; simp at hp1
    have lh : lo n h = p := lo_is hp hp1 hz
    have cz : ∀ v j, j < p → (clr p h v).testBit j = v.testBit j := fun v j hj => by
      unfold clr; split
      · rw [Nat.testBit_xor, hz j hj]; simp
      · rfl
    have cp : ∀ v, (clr p h v).testBit p = false := fun v => by
      unfold clr; split
      · rename_i k; rw [Nat.testBit_xor, k, hp1]; rfl
      · rename_i k; simpa using k
    have clt : ∀ v, v < 2 ^ n → clr p h v < 2 ^ n := fun v hv => by
      unfold clr; split
      · exact xlt hv hl
      · exact hv
    have cl : ∀ b ∈ found, lo n (clr p h b) = lo n b := fun b hb => by
      obtain ⟨m1, m2, m3⟩ := ird.lo hb
      have := ilow b hb
      exact lo_is m1 (by rw [cz _ _ this]; exact m2) fun j hj => by rw [cz _ _ (by omega)]; exact m3 j hj
    have cnz : ∀ b ∈ found, clr p h b ≠ 0 := fun b hb k => by
      obtain ⟨m1, m2, m3⟩ := ird.lo hb
      have := cz b _ (ilow b hb)
      rw [k, m2, Nat.zero_testBit] at this; cases this
    refine ⟨⟨fun c hc => ?_, fun c hc => ?_, ?_⟩, ?_, fun c hc => ?_, fun c hc => ?_, fun c hc j hj => ?_, ?_⟩
    · rcases List.mem_append.1 hc with k | k
      · obtain ⟨b, hb, rfl⟩ := List.mem_map.1 k; exact clt b (ird.lt b hb)
      · rw [List.mem_singleton.1 k]; exact hl
    · rcases List.mem_append.1 hc with k | k
      · obtain ⟨b, hb, rfl⟩ := List.mem_map.1 k; exact cnz b hb
      · rw [List.mem_singleton.1 k]; exact h0
    · rw [List.pairwise_append]
      refine ⟨?_, List.pairwise_singleton _ _, fun a ha c hc => ?_⟩
      · rw [List.pairwise_map]
        refine List.Pairwise.imp_of_mem (fun {b c} hb hc q => ?_) ird.pw
        rw [cl b hb, cl c hc, cz _ _ (ilow c hc), cz _ _ (ilow b hb)]
        exact q
      · rw [List.mem_singleton.1 hc]
        obtain ⟨b, hb, rfl⟩ := List.mem_map.1 ha
        rw [lh, cl b hb]
        exact ⟨cp b, hz _ (ilow b hb)⟩
    · show Asc n _
      unfold Asc
      rw [List.pairwise_append]
      refine ⟨?_, List.pairwise_singleton _ _, fun a ha c hc => ?_⟩
      · rw [List.pairwise_map]
        refine List.Pairwise.imp_of_mem (fun {b c} hb hc q => ?_) iasc
        rw [cl b hb, cl c hc]; exact q
      · rw [List.mem_singleton.1 hc, lh]
        obtain ⟨b, hb, rfl⟩ := List.mem_map.1 ha
        rw [cl b hb]; exact ilow b hb
    · rcases List.mem_append.1 hc with k | k
      · obtain ⟨b, hb, rfl⟩ := List.mem_map.1 k; rw [cl b hb]; exact Nat.lt_succ_of_lt (ilow b hb)
      · rw [List.mem_singleton.1 k, lh]; exact Nat.lt_succ_self p
    · obtain ⟨b, hb, rfl⟩ := List.mem_map.1 hc
      exact clt b (ilt b (List.mem_filter.1 hb).1)
    · obtain ⟨b, hb, rfl⟩ := List.mem_map.1 hc
      rcases Nat.lt_succ_iff_lt_or_eq.1 hj with k | k
      · rw [cz b j k]; exact iz b (List.mem_filter.1 hb).1 j k
      · subst k; exact cp b
    · refine Eq2.trans ?_ ieq
      have hh : sp (left ++ found) h := spm (by simp [hml])
      have cs : ∀ v, sp (left ++ found) v → sp (left ++ found) (clr p h v) := fun v hv => by
        unfold clr; split
        · exact spx hv hh
        · exact hv
      refine .of (fun b hb => ?_) fun c hc => ?_
      · rcases List.mem_append.1 hb with k | k
        · obtain ⟨a, ha, rfl⟩ := List.mem_map.1 k
          exact cs a (spm (by simp [(List.mem_filter.1 ha).1]))
        · rcases List.mem_append.1 k with k | k
          · obtain ⟨a, ha, rfl⟩ := List.mem_map.1 k
            exact cs a (spm (by simp [ha]))
          · rw [List.mem_singleton.1 k]; exact hh
      · generalize hN : ((left.filter (· != h)).map (clr p h) ++ (found.map (clr p h) ++ [h])) = N
        have kh : sp N h := spm (by rw [← hN]; simp)
        have back : ∀ v, clr p h v ∈ N → sp N v := fun v hv => by
          have h1 := spm hv
          unfold clr at h1
          split at h1
          · have := spx h1 kh; rwa [xx] at this
          · exact h1
        rcases List.mem_append.1 hc with k | k
        · by_cases q : c = h
          · subst q; exact kh
          · refine back c ?_
            rw [← hN]
            refine List.mem_append_left _ (List.mem_map_of_mem (List.mem_filter.2 ⟨k, by simpa using q⟩))
        · refine back c ?_
          rw [← hN]
          exact List.mem_append_right _ (List.mem_append_left _ (List.mem_map_of_mem k))
/-- the law's told rows -/
def told (n : Nat) (rows : List Nat) : List Nat := ((List.range n).foldl lstep (rows, [])).2
theorem lsteps {n : Nat} {rows : List Nat} (hr : ∀ r ∈ rows, r < 2 ^ n) : ∀ p, p ≤ n → LInv n p rows ((List.range p).foldl lstep (rows, []))
  | 0, _ => ⟨.nil, .nil, fun _ h => (by cases h), hr, fun _ _ _ h => (by omega), by rw [show (List.foldl lstep (rows, []) (List.range 0)) = (rows, []) from rfl, List.append_nil]; exact .refl _⟩
  | p + 1, hp => by
    rw [List.range_succ, List.foldl_append]
    exact lstep_inv (by omega) (lsteps hr p (by omega))
theorem told_spec {n : Nat} {rows : List Nat} (hr : ∀ r ∈ rows, r < 2 ^ n) : Rd n (told n rows) ∧ Asc n (told n rows) ∧ Eq2 (told n rows) rows := by
  have I := lsteps hr n (Nat.le_refl _)
  refine ⟨I.rd, I.asc, Eq2.trans ?_ I.eq⟩
  refine .of (fun b hb => spm (List.mem_append_right _ hb)) fun c hc => ?_
  rcases List.mem_append.1 hc with k | k
  · have : c = 0 := bext (I.lt c k) (Nat.two_pow_pos n) fun i hi => by rw [I.z c k i hi, Nat.zero_testBit]
    rw [this]; exact sp0 _
  · exact spm k
theorem told_uniq {n : Nat} {rows B : List Nat} (hr : ∀ r ∈ rows, r < 2 ^ n) (hB : Rd n B) (hs : Asc n B) (he : Eq2 B rows) : B = told n rows :=
  hB.uniq (told_spec hr).1 (he.trans (told_spec hr).2.2.symm) hs (told_spec hr).2.1
theorem told_same {n : Nat} {rows rows' : List Nat} (hr : ∀ r ∈ rows, r < 2 ^ n) (hr' : ∀ r ∈ rows', r < 2 ^ n) (he : Eq2 rows rows') : told n rows = told n rows' :=
  told_uniq hr' (told_spec hr).1 (told_spec hr).2.1 ((told_spec hr).2.2.trans he)
end Gf
end

section
set_option linter.all false
set_option Elab.async false
/-! How many rows. -/
namespace Gf
theorem sub_len {α : Type} [DecidableEq α] : ∀ {B C : List α}, B.Nodup → (∀ a ∈ B, a ∈ C) → B.length ≤ C.length
  | [], _, _, _ => Nat.zero_le _
  | b :: B, C, hn, h => by
    have hb := h b List.mem_cons_self
    have h1 := sub_len (B := B) (C := C.erase b) (List.nodup_cons.1 hn).2 fun a ha => by
      have : a ≠ b := fun e => (List.nodup_cons.1 hn).1 (e ▸ ha)
      exact (List.mem_erase_of_ne this).2 (h a (List.mem_cons_of_mem _ ha))
    rw [List.length_erase_of_mem hb] at h1
    have := List.length_pos_of_mem hb
    rw [List.length_cons]; omega
theorem Rd.nodup {n : Nat} {B : List Nat} (h : Rd n B) : B.Nodup := by
  refine List.Pairwise.imp_of_mem (fun {b c} hb hc p e => ?_) h.pw
  subst e
  rw [(h.lo hb).2.1] at p
  cases p.1
theorem Rd.len {n : Nat} {B C : List Nat} (hB : Rd n B) (hC : Rd n C) (e : Eq2 B C) : B.length = C.length :=
  Nat.le_antisymm (sub_len hB.nodup fun a h => hB.same hC e h) (sub_len hC.nodup fun a h => hC.same hB e.symm h)
theorem Eq2.snoc (B : List Nat) (v : Nat) : Eq2 (B ++ [v]) (v :: B) := .of (fun b hb => spm (by simp at hb ⊢; exact hb.symm)) fun c hc => spm (by simp at hc ⊢; exact hc.symm)
theorem told_in {n v : Nat} {B : List Nat} (hB : ∀ b ∈ B, b < 2 ^ n) (hv : v < 2 ^ n) (h : sp B v) : told n (B ++ [v]) = told n B :=
  told_same (fun r hr => by simp at hr; rcases hr with k | k; exact hB r k; subst k; exact hv) hB (.of (fun b hb => by simp at hb; rcases hb with k | k; exact spm k; subst k; exact h) fun c hc => spm (by simp [hc]))
theorem told_out {n v : Nat} {B : List Nat} (hB : ∀ b ∈ B, b < 2 ^ n) (hv : v < 2 ^ n) (h : ¬sp B v) : (told n (B ++ [v])).length = (told n B).length + 1 := by
  obtain ⟨t1, t2, t3⟩ := told_spec hB
  have h1 := tstep_rd t1 hv
  have hr : ∀ r ∈ B ++ [v], r < 2 ^ n := fun r hr => by simp at hr; rcases hr with k | k; exact hB r k; subst k; exact hv
  have e : Eq2 (tstep n (told n B) v) (told n (B ++ [v])) := tstep_eq.trans (((t3.cons v).trans (Eq2.snoc B v).symm).trans (told_spec hr).2.2.symm)
  rw [← h1.len (told_spec hr).1 e]
  have hz : rdc n (told n B) v ≠ 0 := fun k => h ((t3 v).1 (t1.tri.sp_iff.2 k))
  unfold tstep
  dsimp only
  rw [if_neg hz]
  simp
theorem told_len_iff {n v : Nat} {B : List Nat} (hB : ∀ b ∈ B, b < 2 ^ n) (hv : v < 2 ^ n) (h : (told n B).length = B.length) : (told n (B ++ [v])).length = B.length ↔ sp B v := by
  constructor
  · intro k
    refine Classical.byContradiction fun no => ?_
    rw [told_out hB hv no] at k
    omega
  · intro k; rw [told_in hB hv k, h]
end Gf
end

section
set_option linter.all false
set_option Elab.async false
/-! Products of rows, the free base. -/
namespace Gf
/-- how many ones, odd or even -/
def par : Nat → Nat → Bool
  | 0, _ => false
  | n + 1, v => (par n v).xor (v.testBit n)
/-- the product of two rows -/
def dot (n a b : Nat) : Bool := par n (a &&& b)
theorem par_x (n a b : Nat) : par n (a ^^^ b) = (par n a).xor (par n b) := by
  induction n with
  | zero => rfl
  | succ n ih => rw [par, par, par, ih, Nat.testBit_xor]; cases par n a <;> cases par n b <;> cases a.testBit n <;> cases b.testBit n <;> rfl
theorem dot_x (n a b c : Nat) : dot n a (b ^^^ c) = (dot n a b).xor (dot n a c) := by
  unfold dot
  rw [Nat.and_xor_distrib_left, par_x]
theorem dot_comm (n a b : Nat) : dot n a b = dot n b a := by unfold dot; rw [Nat.and_comm]
theorem dot_x' (n a b c : Nat) : dot n (a ^^^ b) c = (dot n a c).xor (dot n b c) := by rw [dot_comm, dot_x, dot_comm, dot_comm n c b]
theorem par_0 (n : Nat) : par n 0 = false := by
  induction n with
  | zero => rfl
  | succ n ih => rw [par, ih, Nat.zero_testBit]; rfl
theorem dot_0 (n a : Nat) : dot n a 0 = false := by unfold dot; rw [Nat.and_zero, par_0]
theorem dot_pow {n i : Nat} (a : Nat) (h : i < n) : dot n a (2 ^ i) = a.testBit i := by
  unfold dot
  have lt : ∀ m, m ≤ i → par m (a &&& 2 ^ i) = false := by
    intro m hm
    induction m with
    | zero => rfl
    | succ m ih => rw [par, ih (by omega), Nat.testBit_and, Nat.testBit_two_pow]; simp; omega
  have ge : ∀ m, i < m → par m (a &&& 2 ^ i) = a.testBit i := by
    intro m hm
    induction m with
    | zero => omega
    | succ m ih =>
      by_cases k : i = m
      · subst k; rw [par, lt i (Nat.le_refl _), Nat.testBit_and, Nat.testBit_two_pow_self]; simp
      · rw [par, ih (by omega), Nat.testBit_and, Nat.testBit_two_pow]; simp [k]
  exact ge n h
theorem dot_sp {n f : Nat} : ∀ {B : List Nat} {v : Nat}, (∀ b ∈ B, dot n b f = false) → sp B v → dot n v f = false
  | [], v, _, h => by cases h; rw [dot_comm, dot_0]
  | b :: B, v, hB, h => by
    have hb := hB b List.mem_cons_self
    have hr := fun c hc => hB c (List.mem_cons_of_mem _ hc)
    rcases h with h | h
    · exact dot_sp hr h
    · have := dot_sp hr h
      rw [dot_x', hb] at this
      simpa using this
/-- the free row of a place -/
def fv (n : Nat) (B : List Nat) (p : Nat) : Nat := (B.filter (·.testBit p)).foldr (fun b a => a ^^^ 2 ^ lo n b) (2 ^ p)
def gs (n : Nat) (B : List Nat) (p v : Nat) : Bool := (B.filter (·.testBit p)).foldr (fun c a => a.xor (v.testBit (lo n c))) false
theorem dot_fv {n p v : Nat} (hp : p < n) : ∀ {B : List Nat}, (∀ b ∈ B, lo n b < n) → dot n v (fv n B p) = (v.testBit p).xor (gs n B p v)
  | [], _ => by unfold fv gs; simp [dot_pow v hp]
  | b :: B, h => by
    have ih := dot_fv (v := v) hp (B := B) fun c hc => h c (List.mem_cons_of_mem _ hc)
    unfold fv gs at ih ⊢
    rw [List.filter_cons]
    split
    · rw [List.foldr_cons, List.foldr_cons, dot_x, ih, dot_pow _ (h b List.mem_cons_self)]
      cases v.testBit p <;> simp
    · exact ih
theorem gs_off {n p v : Nat} : ∀ {B : List Nat}, (∀ b ∈ B, v.testBit (lo n b) = false) → gs n B p v = false
  | [], _ => rfl
  | b :: B, h => by
    have ih := gs_off (p := p) (B := B) fun c hc => h c (List.mem_cons_of_mem _ hc)
    unfold gs at ih ⊢
    rw [List.filter_cons]
    split
    · rw [List.foldr_cons, ih, h b List.mem_cons_self]; rfl
    · exact ih
theorem gs_own {n p b : Nat} : ∀ {B : List Nat}, Rd n B → b ∈ B → gs n B p b = b.testBit p
  | c :: B, hr, hb => by
    have hp := List.pairwise_cons.1 hr.pw
    have e : gs n (c :: B) p b = if c.testBit p then (gs n B p b).xor (b.testBit (lo n c)) else gs n B p b := by
      unfold gs; rw [List.filter_cons]; split <;> rfl
    rw [e]
    rcases List.mem_cons.1 hb with k | k
    · subst k
      rw [gs_off fun d hd => (hp.1 d hd).1, (hr.lo List.mem_cons_self).2.1]
      cases b.testBit p <;> rfl
    · rw [gs_own hr.tail k, (hp.1 b k).2]
      simp
theorem fv_orth {n p : Nat} {B : List Nat} (hr : Rd n B) (hp : p < n) {b : Nat} (hb : b ∈ B) : dot n b (fv n B p) = false := by
  rw [dot_fv hp fun c hc => (hr.lo hc).1, gs_own hr hb]; simp
/-- a row even with all free rows is a sum -/
theorem free_iff {n v : Nat} {B : List Nat} (hr : Rd n B) (hv : v < 2 ^ n) : (∀ p < n, p ∉ B.map (lo n) → dot n v (fv n B p) = false) ↔ sp B v := by
  constructor
  · intro h
    have h1 := rdc_sp (n := n) B v
    have h2 := hr.tri.rdc v
    rw [hr.tri.sp_iff]
    refine bext (rdc_lt hr.lt hv) (Nat.two_pow_pos n) fun i hi => ?_
    rw [Nat.zero_testBit]
    by_cases k : i ∈ B.map (lo n)
    · obtain ⟨b, hb, e⟩ := List.mem_map.1 k
      rw [← e]; exact h2 b hb
    · have h3 := dot_sp (fun b hb => fv_orth hr hi hb) h1
      rw [dot_x', h i hi k, dot_fv hi fun c hc => (hr.lo hc).1, gs_off h2] at h3
      simpa using h3
  · intro h p hp _
    exact dot_sp (fun b hb => fv_orth hr hp hb) h
theorem fv_bit {n p q : Nat} {B : List Nat} (hr : Rd n B) (hp : p ∉ B.map (lo n)) : (fv n B p).testBit q = true ↔ (q = p ∨ ∃ b ∈ B, b.testBit p = true ∧ lo n b = q) := by
  induction B with
  | nil =>
    unfold fv
    rw [List.filter_nil, List.foldr_nil, Nat.testBit_two_pow, decide_eq_true_iff]
    exact ⟨fun h => .inl h.symm, fun h => by rcases h with h | ⟨b, hb, _⟩; exact h.symm; cases hb⟩
  | cons b B ih =>
    have ih := ih hr.tail fun k => hp (by simp at k ⊢; exact .inr k)
    have e : fv n (b :: B) p = if b.testBit p then fv n B p ^^^ 2 ^ lo n b else fv n B p := by
      unfold fv; rw [List.filter_cons]; split <;> rfl
    rw [e]
    by_cases k : b.testBit p = true
    · rw [if_pos k, Nat.testBit_xor, Nat.testBit_two_pow]
      by_cases k2 : lo n b = q
      · have h1 : q ≠ p := fun k3 => hp (by rw [← k3, ← k2]; simp)
        have h2 : ¬∃ c ∈ B, c.testBit p = true ∧ lo n c = q := by
          rintro ⟨c, hc, _, k3⟩
          have h3 := ((List.pairwise_cons.1 hr.pw).1 c hc).2
          rw [k2, ← k3, (hr.tail.lo hc).2.1] at h3
          cases h3
        have h3 : (fv n B p).testBit q = false := by
          cases h4 : (fv n B p).testBit q
          · rfl
          · rcases ih.1 h4 with h5 | h5
            · exact absurd h5 h1
            · exact absurd h5 h2
        rw [h3]
        simp [k2, k]
      · have h3 : decide (lo n b = q) = false := by simp [k2]
        rw [h3, Bool.xor_false, ih]
        simp [k2]
    · rw [if_neg k, ih]
      simp [k]
theorem fv_lt {n p : Nat} {B : List Nat} (hp : p < n) (h : ∀ b ∈ B, lo n b < n) : fv n B p < 2 ^ n := by
  induction B with
  | nil => exact Nat.pow_lt_pow_right (by decide) hp
  | cons b B ih =>
    have ih := ih fun c hc => h c (List.mem_cons_of_mem _ hc)
    have e : fv n (b :: B) p = if b.testBit p then fv n B p ^^^ 2 ^ lo n b else fv n B p := by
      unfold fv; rw [List.filter_cons]; split <;> rfl
    rw [e]
    split
    · exact xlt ih (Nat.pow_lt_pow_right (by decide) (h b List.mem_cons_self))
    · exact ih
end Gf
end

section
set_option linter.all false
set_option Elab.async false
/-! Lots of rows, by their numbers. -/
namespace Gf
open Ev (isort isort_perm isort_sorted)
/-- an ascending lot of numbers below k -/
def Inc (k : Nat) (l : List Int) : Prop := l.Pairwise (· < ·) ∧ ∀ i ∈ l, 0 ≤ i ∧ i < k
/-- the sum of the rows of a lot, of the first k -/
def Sk (rows : List Nat) (l : List Int) : Nat → Nat
  | 0 => 0
  | k + 1 => Sk rows l k ^^^ (if l.contains (k : Int) then rows.getD k 0 else 0)
def S (rows : List Nat) (l : List Int) : Nat := Sk rows l rows.length
theorem Sk_x {rows : List Nat} {x l m : List Int} (h : ∀ i, x.contains i = (l.contains i != m.contains i)) : ∀ k, Sk rows x k = Sk rows l k ^^^ Sk rows m k
  | 0 => by simp [Sk]
  | k + 1 => by
    unfold Sk
    rw [Sk_x h k, h]
    cases l.contains (k : Int) <;> cases m.contains (k : Int) <;> simp [xswap, Nat.xor_assoc]
    · rw [Nat.xor_comm (rows[k]?.getD 0), xx]
theorem S_x {rows : List Nat} {x l m : List Int} (h : ∀ i, x.contains i = (l.contains i != m.contains i)) : S rows x = S rows l ^^^ S rows m := Sk_x h _
theorem Sk_nil {rows : List Nat} : ∀ k, Sk rows [] k = 0
  | 0 => rfl
  | k + 1 => by unfold Sk; rw [Sk_nil k]; simp
theorem S_nil {rows : List Nat} : S rows [] = 0 := Sk_nil _
theorem Sk_one {rows : List Nat} {i : Nat} : ∀ k, Sk rows [(i : Int)] k = if i < k then rows.getD i 0 else 0
  | 0 => rfl
  | k + 1 => by
    unfold Sk
    rw [Sk_one k]
    by_cases e : i = k
    · subst e; simp
    · have h1 : ¬ (k : Int) = (i : Int) := by omega
      by_cases h : i < k
      · have h2 : i < k + 1 := by omega
        simp [h, h2, List.contains_cons, h1]
      · have h2 : ¬ i < k + 1 := by omega
        simp [h, h2, List.contains_cons, h1]
theorem S_one {rows : List Nat} {i : Nat} (h : i < rows.length) : S rows [(i : Int)] = rows[i] := by
  unfold S
  rw [Sk_one, if_pos h]
  simp [h]
theorem Inc.nodup {k : Nat} {l : List Int} (h : Inc k l) : l.Nodup := h.1.imp fun h => by omega
theorem Inc.len {k : Nat} {l : List Int} (h : Inc k l) : l.length ≤ k := by
  have := sub_len h.nodup (C := (List.range k).map fun i : Nat => (i : Int)) fun a ha => by
    have := h.2 a ha
    exact List.mem_map.2 ⟨a.toNat, List.mem_range.2 (by omega), by omega⟩
  simpa using this
theorem S_fold {rows : List Nat} : ∀ {l : List Int} {a : Nat}, Inc rows.length l → l.foldl (fun a i => a ^^^ rows.getD i.toNat 0) a = a ^^^ S rows l
  | [], a, _ => by rw [S_nil]; simp
  | i :: l, a, h => by
    have h1 := List.pairwise_cons.1 h.1
    have hi := h.2 i List.mem_cons_self
    have ht : Inc rows.length l := ⟨h1.2, fun j hj => h.2 j (List.mem_cons_of_mem _ hj)⟩
    obtain ⟨i, rfl⟩ : ∃ j : Nat, i = (j : Int) := ⟨i.toNat, by omega⟩
    have hil : i < rows.length := by omega
    rw [List.foldl_cons, S_fold ht]
    rw [S_x (x := (i : Int) :: l) (l := [(i : Int)]) (m := l) fun j => ?_]
    · rw [S_one hil, Nat.xor_assoc]
      simp [hil]
    · rw [List.contains_cons, List.contains_cons]
      by_cases e : j = (i : Int)
      · have hc : l.contains j = false := by
          rw [Bool.eq_false_iff]
          intro c
          have := h1.1 j (by simpa using c)
          omega
        rw [hc, e]; simp
      · have : (j == (i : Int)) = false := by simpa using e
        simp [this]
/-- the lot of what is in one of two -/
def sd (l m : List Int) : List Int := isort ((l ++ m).filter fun i => l.contains i != m.contains i)
theorem sd_mem {l m : List Int} (i : Int) : (sd l m).contains i = (l.contains i != m.contains i) := by
  rw [Bool.eq_iff_iff]
  unfold sd
  rw [List.contains_iff_mem, (isort_perm _).mem_iff, List.mem_filter]
  constructor
  · intro h; exact h.2
  · intro h
    refine ⟨?_, h⟩
    rw [List.mem_append]
    cases h1 : l.contains i with
    | true => exact .inl (by simpa using h1)
    | false =>
      rw [h1] at h
      cases h2 : m.contains i with
      | true => exact .inr (by simpa using h2)
      | false => rw [h2] at h; cases h
theorem sd_inc {k : Nat} {l m : List Int} (hl : Inc k l) (hm : Inc k m) : Inc k (sd l m) := by
  constructor
  · have nd : (sd l m).Nodup := by
      refine (isort_perm _).nodup_iff.2 ?_
      rw [List.filter_append]
      refine List.nodup_append.2 ⟨hl.nodup.filter _, hm.nodup.filter _, ?_⟩
      intro a ha b hb e
      subst e
      obtain ⟨h1, h2⟩ := List.mem_filter.1 ha
      obtain ⟨h3, h4⟩ := List.mem_filter.1 hb
      have e1 : l.contains a = true := by simpa using h1
      have e2 : m.contains a = true := by simpa using h3
      rw [e1, e2] at h2
      cases h2
    have srt : (sd l m).Pairwise (· ≤ ·) := isort_sorted _
    exact (List.pairwise_and_iff.2 ⟨srt, nd⟩).imp fun h => by omega
  · intro i hi
    have := List.mem_append.1 (List.mem_filter.1 ((isort_perm _).mem_iff.1 hi)).1
    exact this.elim (hl.2 i) (hm.2 i)
theorem S_sd {rows : List Nat} {l m : List Int} : S rows (sd l m) = S rows l ^^^ S rows m := S_x sd_mem
/-- one step of a reduction with its lot -/
def rstep (n : Nat) (p q : Nat × List Int) : Nat × List Int := if p.1.testBit (lo n q.1) then (p.1 ^^^ q.1, sd p.2 q.2) else p
theorem rfold {n k : Nat} {rows : List Nat} (hk : k = rows.length) : ∀ {found : List (Nat × List Int)} {p : Nat × List Int}, (∀ q ∈ found, Inc k q.2 ∧ q.1 = S rows q.2) → Inc k p.2 →
    (found.foldl (rstep n) p).1 = rdc n (found.map (·.1)) p.1 ∧ Inc k (found.foldl (rstep n) p).2 ∧ (found.foldl (rstep n) p).1 ^^^ S rows (found.foldl (rstep n) p).2 = p.1 ^^^ S rows p.2
  | [], p, _, hp => ⟨rfl, hp, rfl⟩
  | q :: found, p, hf, hp => by
    have hq := hf q List.mem_cons_self
    rw [List.foldl_cons, List.map_cons, rdc]
    have hs : (rstep n p q).1 = (if p.1.testBit (lo n q.1) then p.1 ^^^ q.1 else p.1) ∧ Inc k (rstep n p q).2 ∧ (rstep n p q).1 ^^^ S rows (rstep n p q).2 = p.1 ^^^ S rows p.2 := by
      unfold rstep
      split
      · refine ⟨rfl, sd_inc hp hq.1, ?_⟩
        show p.1 ^^^ q.1 ^^^ S rows (sd p.2 q.2) = _
        rw [S_sd, ← hq.2, ← Nat.xor_assoc, xswap p.1, Nat.xor_assoc, Nat.xor_self, Nat.xor_zero]
      · exact ⟨rfl, hp, rfl⟩
    obtain ⟨h1, h2, h3⟩ := rfold (n := n) hk (fun r hr => hf r (List.mem_cons_of_mem _ hr)) hs.2.1
    rw [hs.1] at h1
    exact ⟨h1, h2, h3.trans hs.2.2⟩
/-- one more row for lot_that_makes -/
def fstep (n : Nat) (found : List (Nat × List Int)) (ri : Nat × Nat) : List (Nat × List Int) :=
  let q := found.foldl (rstep n) (ri.1, [(ri.2 : Int)])
  if q.1 = 0 then found else found ++ [q]
structure LotInv (n : Nat) (rows : List Nat) (found : List (Nat × List Int)) (C : List Nat) : Prop where
  tri : Tri n (found.map (·.1))
  ok : ∀ q ∈ found, Inc rows.length q.2 ∧ q.1 = S rows q.2
  eq : Eq2 (found.map (·.1)) C
theorem LotInv.step {n : Nat} {rows C : List Nat} {found : List (Nat × List Int)} (I : LotInv n rows found C) {r i : Nat} (hr : r < 2 ^ n) (hi : i < rows.length) (e : rows[i] = r) :
    LotInv n rows (fstep n found (r, i)) (C ++ [r]) := by
  have hinc : Inc rows.length [(i : Int)] := ⟨List.pairwise_singleton _ _, fun j hj => by rw [List.mem_singleton] at hj; omega⟩
  obtain ⟨h1, h2, h3⟩ := rfold (n := n) rfl (p := (r, [(i : Int)])) I.ok hinc
  have h4 : (found.foldl (rstep n) (r, [(i : Int)])).1 = S rows (found.foldl (rstep n) (r, [(i : Int)])).2 := by
    apply x_eq
    rw [h3]
    show r ^^^ S rows [(i : Int)] = 0
    rw [S_one hi, e, Nat.xor_self]
  have hsp := rdc_sp (n := n) (found.map (·.1)) r
  unfold fstep
  dsimp only
  generalize found.foldl (rstep n) (r, [(i : Int)]) = q at h1 h2 h3 h4 ⊢
  have h1' : q.1 = rdc n (found.map (·.1)) r := h1
  split
  · rename_i z
    rw [← h1', z, Nat.xor_zero] at hsp
    refine ⟨I.tri, I.ok, I.eq.trans (.of (fun b hb => spm (by simp [hb])) fun c hc => ?_)⟩
    rcases List.mem_append.1 hc with h | h
    · exact spm h
    · rw [List.mem_singleton] at h; subst h
      exact (I.eq _).1 hsp
  · rename_i z
    refine ⟨⟨?_, ?_, ?_⟩, ?_, ?_⟩
    · intro b hb
      rw [List.map_append, List.mem_append] at hb
      rcases hb with h | h
      · exact I.tri.lt b h
      · simp at h; rw [h, h1']; exact rdc_lt I.tri.lt hr
    · intro b hb
      rw [List.map_append, List.mem_append] at hb
      rcases hb with h | h
      · exact I.tri.nz b h
      · simp at h; rw [h]; exact z
    · rw [List.map_append, List.pairwise_append]
      refine ⟨I.tri.pw, List.pairwise_singleton _ _, fun b hb c hc => ?_⟩
      simp at hc; rw [hc, h1']
      exact I.tri.rdc r b hb
    · intro q' hq'
      rcases List.mem_append.1 hq' with h | h
      · exact I.ok q' h
      · rw [List.mem_singleton] at h; subst h; exact ⟨h2, h4⟩
    · refine .of ?_ ?_
      · intro b hb
        rw [List.map_append, List.mem_append] at hb
        rcases hb with h | h
        · exact sps (fun c hc => spm (by simp [hc])) ((I.eq b).1 (spm h))
        · simp at h; rw [h, h1']
          have a1 : sp (C ++ [r]) r := spm (by simp)
          have a2 : sp (C ++ [r]) (r ^^^ rdc n (found.map (·.1)) r) := sps (fun c hc => spm (by simp [hc])) ((I.eq _).1 hsp)
          have := spx a1 a2
          rwa [← Nat.xor_assoc, Nat.xor_self, Nat.zero_xor] at this
      · intro c hc
        rcases List.mem_append.1 hc with h | h
        · exact sps (fun b hb => spm (by rw [List.map_append]; simp only [List.mem_append]; exact .inl hb)) ((I.eq c).2 (spm h))
        · rw [List.mem_singleton] at h; subst h
          have a1 : sp ((found ++ [q]).map (·.1)) q.1 := spm (by simp)
          have a2 : sp ((found ++ [q]).map (·.1)) (c ^^^ rdc n (found.map (·.1)) c) := sps (fun b hb => spm (by rw [List.map_append]; simp only [List.mem_append]; exact .inl hb)) hsp
          have := spx a2 a1
          rwa [h1', xx] at this
theorem lotInv {n : Nat} {rows : List Nat} (hr : ∀ r ∈ rows, r < 2 ^ n) : ∀ k, k ≤ rows.length → LotInv n rows ((rows.zipIdx.take k).foldl (fstep n) []) (rows.take k)
  | 0, _ => ⟨⟨fun _ h => (by cases h), fun _ h => (by cases h), .nil⟩, fun _ h => (by cases h), .refl _⟩
  | k + 1, h => by
    have ih := lotInv hr k (by omega)
    have h1 : rows.zipIdx.take (k + 1) = rows.zipIdx.take k ++ [(rows[k], k)] := by
      rw [List.take_succ_eq_append_getElem (by rw [List.length_zipIdx]; omega)]
      simp
    have h2 : rows.take (k + 1) = rows.take k ++ [rows[k]] := List.take_succ_eq_append_getElem (by omega)
    rw [h1, h2, List.foldl_append]
    exact ih.step (hr _ (List.getElem_mem _)) (by omega) rfl
end Gf
end

section
set_option linter.all false
set_option Elab.async false
/-! Rows at some of their places. -/
namespace Gf
def ofB : List Bool → Nat
  | [] => 0
  | b :: bs => 2 * ofB bs + (if b then 1 else 0)
theorem ofB_bit : ∀ (bs : List Bool) (i : Nat), (ofB bs).testBit i = bs.getD i false
  | [], i => by simp [ofB]
  | b :: bs, 0 => by
    unfold ofB
    rw [Nat.testBit_zero]
    cases b <;> simp <;> omega
  | b :: bs, i + 1 => by
    unfold ofB
    rw [Nat.testBit_succ]
    have : (2 * ofB bs + if b = true then 1 else 0) / 2 = ofB bs := by split <;> omega
    rw [this, ofB_bit bs i]
    simp
theorem ofB_lt : ∀ bs : List Bool, ofB bs < 2 ^ bs.length
  | [] => by simp [ofB]
  | b :: bs => by
    have := ofB_lt bs
    unfold ofB
    rw [List.length_cons, Nat.pow_succ]
    split <;> omega
/-- a row seen at places -/
def av (v : Nat) (ps : List Nat) : Nat := ofB (ps.map v.testBit)
theorem av_bit {v i : Nat} {ps : List Nat} (h : i < ps.length) : (av v ps).testBit i = v.testBit ps[i] := by
  unfold av
  rw [ofB_bit]
  simp [h]
theorem av_lt (v : Nat) (ps : List Nat) : av v ps < 2 ^ ps.length := by
  have := ofB_lt (ps.map v.testBit)
  rwa [List.length_map] at this
theorem av_x (a b : Nat) (ps : List Nat) : av (a ^^^ b) ps = av a ps ^^^ av b ps := by
  refine bext (n := ps.length) (av_lt _ _) (xlt (av_lt _ _) (av_lt _ _)) fun i hi => ?_
  rw [Nat.testBit_xor, av_bit hi, av_bit hi, av_bit hi, Nat.testBit_xor]
theorem av_0 (ps : List Nat) : av 0 ps = 0 := by
  refine bext (n := ps.length) (av_lt _ _) (Nat.two_pow_pos _) fun i hi => ?_
  rw [av_bit hi]; simp
theorem av_Sk {rows : List Nat} {l : List Int} {ps : List Nat} : ∀ k, Sk (rows.map (av · ps)) l k = av (Sk rows l k) ps
  | 0 => by unfold Sk; rw [av_0]
  | k + 1 => by
    unfold Sk
    rw [av_Sk k, av_x]
    congr 1
    split
    · by_cases h : k < rows.length
      · simp [h]
      · simp [h, av_0]
    · rw [av_0]
theorem av_S {rows : List Nat} {l : List Int} {ps : List Nat} : S (rows.map (av · ps)) l = av (S rows l) ps := by
  unfold S
  rw [List.length_map]
  exact av_Sk _
theorem S_sp {rows : List Nat} {l : List Int} : sp rows (S rows l) := by
  unfold S
  have : ∀ k, sp rows (Sk rows l k) := by
    intro k
    induction k with
    | zero => exact sp0 _
    | succ k ih =>
      unfold Sk
      refine spx ih ?_
      split
      · by_cases h : k < rows.length
        · simp [h]; exact spm (List.getElem_mem _)
        · simp [h]; exact sp0 _
      · exact sp0 _
  exact this _
/-- exclusive or over a list -/
def px (g : Nat → Bool) : List Nat → Bool
  | [] => false
  | i :: l => (px g l).xor (g i)
theorem px_perm {g : Nat → Bool} {l m : List Nat} (h : l.Perm m) : px g l = px g m := by
  induction h with
  | nil => rfl
  | cons x _ ih => unfold px; rw [ih]
  | swap x y l => unfold px px; rw [Bool.xor_assoc, Bool.xor_comm (g x), ← Bool.xor_assoc]
  | trans _ _ a b => exact a.trans b
theorem px_app {g : Nat → Bool} : ∀ {l m : List Nat}, px g (l ++ m) = (px g m).xor (px g l)
  | [], m => by simp [px]
  | i :: l, m => by
    rw [List.cons_append, px, px_app, px, Bool.xor_assoc]
theorem par_px (n v : Nat) : par n v = px v.testBit (List.range n) := by
  induction n with
  | zero => rfl
  | succ n ih => 
    rw [par, ih, List.range_succ, px_app]
    have e : px v.testBit [n] = v.testBit n := by unfold px; unfold px; simp
    rw [e, Bool.xor_comm]
theorem px_filter {g : Nat → Bool} {q : Nat → Bool} : ∀ {l : List Nat}, px (fun i => q i && g i) l = px g (l.filter q)
  | [] => rfl
  | i :: l => by
    rw [px, px_filter, List.filter_cons]
    cases q i <;> simp [px]
theorem px_congr {g h : Nat → Bool} : ∀ {l : List Nat}, (∀ i ∈ l, g i = h i) → px g l = px h l
  | [], _ => rfl
  | i :: l, e => by rw [px, px, e i List.mem_cons_self, px_congr fun j hj => e j (List.mem_cons_of_mem _ hj)]
theorem px_map {g : Nat → Bool} {f : Nat → Nat} : ∀ {l : List Nat}, px g (l.map f) = px (fun i => g (f i)) l
  | [] => rfl
  | i :: l => by rw [List.map_cons, px, px, px_map]
/-- marks put at places, elsewhere none -/
def pv (n : Nat) (ps : List Nat) (f : Nat) : Nat := ofB ((List.range n).map fun p => ps.contains p && f.testBit (ps.idxOf p))
theorem pv_lt (n : Nat) (ps : List Nat) (f : Nat) : pv n ps f < 2 ^ n := by
  have := ofB_lt ((List.range n).map fun p => ps.contains p && f.testBit (ps.idxOf p))
  simpa [pv] using this
theorem pv_bit {n p f : Nat} {ps : List Nat} (h : p < n) : (pv n ps f).testBit p = (ps.contains p && f.testBit (ps.idxOf p)) := by
  unfold pv
  rw [ofB_bit]
  simp [h]
theorem dot_pv {n v f : Nat} {ps : List Nat} (hn : ps.Nodup) (hp : ∀ p ∈ ps, p < n) : dot n v (pv n ps f) = dot ps.length (av v ps) f := by
  unfold dot
  rw [par_px, par_px]
  rw [px_congr (h := fun p => ps.contains p && (v.testBit p && f.testBit (ps.idxOf p))) fun p hp => by
    rw [Nat.testBit_and, pv_bit (List.mem_range.1 hp)]
    cases v.testBit p <;> cases ps.contains p <;> rfl]
  rw [px_filter]
  have perm : ((List.range n).filter fun p => ps.contains p).Perm ps := by
    rw [List.perm_ext_iff_of_nodup (List.nodup_range.filter _) hn]
    intro p
    rw [List.mem_filter]
    constructor
    · intro h; simpa using h.2
    · intro h; exact ⟨List.mem_range.2 (hp p h), by simpa using h⟩
  rw [px_perm perm]
  have e : ps = (List.range ps.length).map fun i => ps.getD i 0 := by
    apply List.ext_getElem
    · simp
    · intro i h1 h2; simp [h1]
  conv => lhs; rw [e]
  rw [px_map]
  refine px_congr fun i hi => ?_
  have hil := List.mem_range.1 hi
  rw [Nat.testBit_and, av_bit hil, ← e]
  have : ps.getD i 0 = ps[i] := by simp [hil]
  rw [this, hn.idxOf_getElem i hil]
theorem dot_av {n v f : Nat} {ps : List Nat} (hf : ∀ p < n, p ∉ ps → f.testBit p = false) (hn : ps.Nodup) (hp : ∀ p ∈ ps, p < n) : dot n v f = dot ps.length (av v ps) (av f ps) := by
  rw [← dot_pv hn hp]
  unfold dot
  rw [par_px, par_px]
  refine px_congr fun p hp' => ?_
  have hpn := List.mem_range.1 hp'
  rw [Nat.testBit_and, Nat.testBit_and, pv_bit hpn]
  congr 1
  by_cases h : p ∈ ps
  · have h2 : ps.idxOf p < ps.length := List.idxOf_lt_length_of_mem h
    rw [av_bit h2]
    simp [h]
  · rw [hf p hpn h]
    simp [h]
theorem told_len_le {n : Nat} : ∀ (k : Nat) (rows : List Nat), rows.length = k → (∀ r ∈ rows, r < 2 ^ n) → (told n rows).length ≤ rows.length
  | 0, rows, h, _ => by
    have : rows = [] := List.length_eq_zero_iff.1 h
    subst this
    obtain ⟨hR, _, hE⟩ := told_spec (n := n) (rows := []) fun _ h => by cases h
    exact Nat.le_of_eq (Rd.len hR (.nil : Rd n []) hE)
  | k + 1, rows, h, hr => by
    obtain ⟨B, v, e⟩ : ∃ B v, rows = B ++ [v] := by
      rcases List.eq_nil_or_concat rows with e | ⟨B, v, e⟩
      · rw [e] at h; cases h
      · exact ⟨B, v, by rw [e]; simp⟩
    subst e
    have hB : ∀ b ∈ B, b < 2 ^ n := fun b hb => hr b (by simp [hb])
    have hv : v < 2 ^ n := hr v (by simp)
    have ih := told_len_le k B (by simpa using h) hB
    by_cases hs : sp B v
    · rw [told_in hB hv hs]; simp; omega
    · rw [told_out hB hv hs]; simp; omega
end Gf
end

section
set_option linter.all false
set_option Elab.async false
set_option maxRecDepth 100000
namespace K75
open PySem hiding ret
open Ev
open Gf (sp lo rdc tstep Rd Eq2 Tri told fv dot par)
theorem it_eR (n v : Nat) : items (eR n v) = some ((List.range n).map (eB v)) := rfl
theorem sum_of_ev {n a b : Nat} (hn : n ≤ lim) : F_sum_of [.vw 0 (eR n a), .vw 0 (eR n b)] = ret (eR n (a ^^^ b)) := by
  simp [F_sum_of, b_sum_of]
  rw [comp_map (List.range n) (fun i => .tuple [.int (i : Nat), eB a i]) (eB (a ^^^ b))]
  · rfl
  · simp [it_eR, Function.comp_def]
  · intro i hi
    simp at hi
    simp [eR_ix hi, eB, bit]
    cases a.testBit i <;> cases b.testBit i <;> rfl
  · simpa using hn
theorem law_sum_ev {n a b : Nat} (hn : n ≤ lim) : F__law_sum [.vw 0 (eR n a), .vw 0 (eR n b)] = ret (eR n (a ^^^ b)) := by
  simp [F__law_sum, b__law_sum]
  rw [comp_map (List.range n) (fun i => .tuple [eB a i, eB b i]) (eB (a ^^^ b))]
  · rfl
  · simp [it_eR, zip_mapR, Function.comp_def]
  · intro i hi
    simp at hi
    simp [eB, bit]
    cases a.testBit i <;> cases b.testBit i <;> rfl
  · simpa using hn
theorem sum_par (n a b : Nat) : ((List.range n).map fun i => bit a i * bit b i).sum % 2 = if dot n a b then 1 else 0 := by
  unfold dot
  induction n with
  | zero => rfl
  | succ n ih =>
    rw [List.range_succ, List.map_append, List.sum_append, par, Nat.testBit_and]
    simp only [List.map_cons, List.map_nil, List.sum_cons, List.sum_nil, Int.add_zero]
    rw [Int.add_emod, ih]
    unfold bit
    cases par n (a &&& b) <;> cases a.testBit n <;> cases b.testBit n <;> rfl
theorem are_even_ev {n a b : Nat} (hn : n ≤ lim) : F_are_even [.vw 0 (eR n a), .vw 0 (eR n b)] = ret (.bool (!dot n a b)) := by
  simp [F_are_even, b_are_even]
  rw [comp_map (List.range n) (fun i => .tuple [eB a i, eB b i]) (fun i => .int (bit a i * bit b i))]
  · simp [sumD, listed, asInts_mapf, modD, sum_par]
    cases dot n a b <;> rfl
  · simp [it_eR, zip_mapR, Function.comp_def]
  · intro i hi
    have : small (bit a i) = true := by unfold small bit; split <;> decide
    simp [mulD, eB, this]
  · simpa using hn
theorem is_odd_ev {n a b : Nat} (hn : n ≤ lim) : F__law_is_odd [.vw 0 (eR n a), .vw 0 (eR n b)] = ret (.bool (dot n a b)) := by
  simp [F__law_is_odd, b__law_is_odd]
  rw [comp_map (List.range n) (fun i => .tuple [eB a i, eB b i]) (fun i => .int (bit a i * bit b i))]
  · simp [sumD, listed, asInts_mapf, modD, sum_par]
    cases dot n a b <;> rfl
  · simp [it_eR, zip_mapR, Function.comp_def]
  · intro i hi
    have : small (bit a i) = true := by unfold small bit; split <;> decide
    simp [mulD, eB, this]
  · simpa using hn
theorem idx_eR {n v : Nat} (h0 : v ≠ 0) (hv : v < 2 ^ n) : idxD (eR n v) (.int 1) = some (.int (lo n v : Nat)) := by
  obtain ⟨h1, h2, h3⟩ := Gf.lo_some h0 hv
  show idxD (.tuple ((List.range n).map fun i => .int (bit v i))) (.int 1) = _
  unfold idxD
  dsimp only
  rw [asInts_mapf]
  have hm : (1 : Int) ∈ (List.range n).map (bit v) := List.mem_map.2 ⟨lo n v, List.mem_range.2 h1, by unfold bit; rw [h2]; rfl⟩
  have hi : ((List.range n).map (bit v)).idxOf 1 = lo n v := by
    unfold List.idxOf
    rw [List.findIdx_eq (by simpa using h1)]
    constructor
    · simp [bit, h2]
    · intro j hj; simp [bit, h3 j hj]
  simp only [Option.bind_some]
  rw [if_pos hm, hi]
theorem first_one_ev {n v : Nat} (h0 : v ≠ 0) (hv : v < 2 ^ n) : F_first_one [.vw 0 (eR n v)] = ret (.int (lo n v : Nat)) := by
  simp [F_first_one, b_first_one, idx_eR h0 hv]
theorem one_in {n v : Nat} (hv : v < 2 ^ n) : inS (.int 1) (eR n v) = some (.bool (decide (v ≠ 0))) := by
  unfold eR eB
  rw [in_ti]
  congr 2
  by_cases h : v = 0
  · subst h; simp [bit]
  · obtain ⟨h1, h2, h3⟩ := Gf.lo_some h hv
    simp [h]
    exact ⟨lo n v, h1, by unfold bit; rw [h2]; rfl⟩
theorem items_eRs (n : Nat) (rows : List Nat) : items (.tuple (eRs n rows)) = some (eRs n rows) := rfl
theorem rdc_foldl {n : Nat} : ∀ (B : List Nat) (v : Nat), B.foldl (fun v b => if v.testBit (lo n b) then v ^^^ b else v) v = rdc n B v
  | [], v => rfl
  | b :: B, v => by rw [List.foldl_cons, rdc, rdc_foldl]
theorem Rd.le {n : Nat} {B : List Nat} (h : Rd n B) : B.length ≤ n := by
  have h1 : (B.map (lo n)).Nodup := by
    rw [List.nodup_iff_pairwise_ne, List.pairwise_map]
    refine (List.Pairwise.and_mem.1 h.pw).imp fun {a b} q e => ?_
    obtain ⟨ha, hb, q1, q2⟩ := q
    rw [← e, (h.lo ha).2.1] at q1
    cases q1
  have := Gf.sub_len h1 (C := List.range n) fun a ha => by
    obtain ⟨b, hb, e⟩ := List.mem_map.1 ha
    rw [← e]; exact List.mem_range.2 (h.lo hb).1
  simpa using this
theorem Rd.perm {n : Nat} {B C : List Nat} (h : Rd n B) (p : C.Perm B) : Rd n C :=
  ⟨fun b hb => h.lt b (p.mem_iff.1 hb), fun b hb => h.nz b (p.mem_iff.1 hb), (p.pairwise_iff fun {a b} q => ⟨q.2, q.1⟩).2 h.pw⟩
theorem told_rows_ev' {d : D} {n : Nat} {rows : List Nat} (hd : items d = some (eRs n rows)) (hn : n ≤ 1000) (hr : ∀ r ∈ rows, r < 2 ^ n) : ∃ B, Rd n B ∧ Eq2 B rows ∧ F_told_rows [.vw 0 d] = ret (.tuple (eRs n B)) := by
  have hl : n ≤ lim := Nat.le_trans hn (by decide)
  obtain ⟨hR, hE⟩ := Gf.tsteps_rd (n := n) rows .nil hr
  rw [List.append_nil] at hE
  obtain ⟨B', p, e⟩ := sortTR_map (fun v => (List.range n).map (bit v)) (xs := rows.foldl (tstep n) []) fun x hx => by
    intro e
    have h0 : n = 0 := by simpa using e
    have := hR.lt x hx
    subst h0
    exact hR.nz x hx (by omega)
  have ee : ∀ ys : List Nat, (ys.map fun v => tupI ((List.range n).map (bit v))) = eRs n ys := fun ys => by
    unfold eRs tupI eR
    simp [eB, Function.comp_def]
  rw [ee, ee] at e
  refine ⟨B', Rd.perm hR p, (Gf.Eq2.perm p).trans hE, ?_⟩
  simp [F_told_rows, b_told_rows, hd]
  rw [forL_pre rows (eR n) (fun pre => [.vw 0 d, .vw 0 (.list (eRs n (pre.foldl (tstep n) []))), .dead, .dead, .dead, .dead])]
  · simp [e]
  · rfl
  · rfl
  · intro pre x post he
    have hx : x < 2 ^ n := hr x (by rw [he]; simp)
    obtain ⟨pR, _⟩ := Gf.tsteps_rd (n := n) pre .nil fun r hr' => hr r (by rw [he]; simp [hr'])
    rw [List.foldl_append, List.foldl_cons, List.foldl_nil]
    generalize pre.foldl (tstep n) [] = B at pR ⊢
    have hB := Rd.le pR
    simp
    rw [forL_pre B (eR n) (fun pr => [.vw 0 d, .vw 0 (.list (eRs n B)), .vw 0 (eR n x), .vw 0 (eR n (pr.foldl (fun v b => if v.testBit (lo n b) then v ^^^ b else v) x)), .dead, .dead])]
    · rw [rdc_foldl]
      have hd : rdc n B x < 2 ^ n := Gf.rdc_lt pR.lt hx
      simp [one_in hd]
      by_cases h0 : rdc n B x = 0
      · simp [h0, tstep]
      · simp [h0, tstep, first_one_ev h0 hd]
        rw [comp_map B (eR n) (fun b => eR n (if b.testBit (lo n (rdc n B x)) then b ^^^ rdc n B x else b))]
        · have : B.length + 1 ≤ lim := by unfold lim; omega
          simp [add_lst, this, eRs, Function.comp_def]
        · rfl
        · intro b hb
          simp [eR_ix (Gf.lo_some h0 hd).1]
          cases b.testBit (lo n (rdc n B x)) <;> simp [sum_of_ev hl]
        · unfold lim; omega
    · rfl
    · rfl
    · intro pr b ps hp
      have hb : b ∈ B := by rw [hp]; simp
      rw [List.foldl_append, List.foldl_cons, List.foldl_nil]
      generalize pr.foldl (fun v b => if v.testBit (lo n b) then v ^^^ b else v) x = v
      simp [first_one_ev (pR.nz b hb) (pR.lt b hb), eR_ix (pR.lo hb).1]
      cases v.testBit (lo n b) <;> simp [sum_of_ev hl]
theorem told_rows_ev {n : Nat} {rows : List Nat} (hn : n ≤ 1000) (hr : ∀ r ∈ rows, r < 2 ^ n) : ∃ B, Rd n B ∧ Eq2 B rows ∧ F_told_rows [.vw 0 (.tuple (eRs n rows))] = ret (.tuple (eRs n B)) := told_rows_ev' (items_eRs n rows) hn hr
end K75
end

section
set_option linter.all false
set_option Elab.async false
set_option maxRecDepth 100000
namespace K75
open PySem hiding ret
open Ev
open Gf (sp lo rdc tstep Rd Eq2 Tri told fv dot par)
theorem lim_of {n : Nat} (h : n ≤ 1000) : n ≤ lim := Nat.le_trans h (by decide)
theorem icast (a b : Nat) : ((a : Int) = (b : Int)) = (a = b) := propext ⟨by omega, by omega⟩
theorem icastb (a b : Nat) : ((a : Int) == (b : Int)) = (a == b) := by rw [Bool.eq_iff_iff]; simp [icast]
def isLead (n : Nat) (B : List Nat) (p : Nat) : Bool := B.any fun b => lo n b == p
theorem isLead_iff {n : Nat} {B : List Nat} {p : Nat} : isLead n B p = true ↔ p ∈ B.map (lo n) := by
  unfold isLead
  simp [List.any_eq_true]
theorem nin_lead {n p : Nat} {B : List Nat} : ninS (.int (p : Nat)) (.list (B.map fun b => .int (lo n b : Nat))) = some (.bool (!isLead n B p)) := by
  rw [nin_li]; simp only [icastb]; rfl
theorem nin_leadT {n p : Nat} {B : List Nat} : ninS (.int (p : Nat)) (.tuple (B.map fun b => .int (lo n b : Nat))) = some (.bool (!isLead n B p)) := by
  rw [nin_ti]; simp only [icastb]; rfl
def freesOf (n : Nat) (B : List Nat) (ps : List Nat) : List Nat := (ps.filter fun p => !isLead n B p).map (fv n B)
def frees (n : Nat) (B : List Nat) : List Nat := freesOf n B (List.range n)
theorem eR_of {n v : Nat} {c : Nat → Bool} (h : ∀ q < n, c q = v.testBit q) : (.tuple ((List.range n).map fun q => .int (if c q = true then 1 else 0)) : D) = eR n v := by
  unfold eR eB bit
  congr 1
  apply List.map_congr_left
  intro q hq
  rw [h q (List.mem_range.1 hq)]
theorem ones_fv {n p q : Nat} {B : List Nat} (hR : Rd n B) (hp : isLead n B p = false) :
    inS (.int (q : Nat)) (.list (.int (p : Nat) :: (B.filter (·.testBit p)).map fun b => .int (lo n b : Nat))) = some (.bool ((fv n B p).testBit q)) := by
  have e : (.int (p : Nat) :: (B.filter (·.testBit p)).map fun b => .int (lo n b : Nat) : List D) = (p :: (B.filter (·.testBit p)).map (lo n)).map fun i => .int (i : Nat) := by
    simp [Function.comp_def]
  rw [e, in_li]
  congr 2
  have h1 : p ∉ B.map (lo n) := fun h => by rw [isLead_iff.2 h] at hp; cases hp
  rw [Bool.eq_iff_iff, Gf.fv_bit hR h1]
  simp [List.any_eq_true, icast]
  constructor
  · rintro (h | h)
    · exact .inl h.symm
    · exact .inr h
  · rintro (h | h)
    · exact .inl h.symm
    · exact .inr h
theorem free_base_ev {n : Nat} {rows : List Nat} (hn : n ≤ 1000) (hr : ∀ r ∈ rows, r < 2 ^ n) : ∃ B, Rd n B ∧ Eq2 B rows ∧
    F_free_base [.vw 0 (.tuple [.int (n : Nat), .tuple (eRs n rows)])] = ret (.tuple (eRs n (frees n B))) := by
  obtain ⟨B, hR, hE, e⟩ := told_rows_ev hn hr
  have hl := lim_of hn
  have hB := Rd.le hR
  refine ⟨B, hR, hE, ?_⟩
  simp [F_free_base, b_free_base, e]
  rw [comp_map B (eR n) (fun b => .int (lo n b : Nat))]
  · simp [rngM_nat hl]
    rw [forL_pre (List.range n) (fun i => .int (i : Nat)) (fun pre => [.vw 0 (.tuple [.int (n : Nat), .tuple (eRs n rows)]), .vw 0 (.int (n : Nat)), .vw 0 (.tuple (eRs n B)), .vw 0 (.list (B.map fun b => .int (lo n b : Nat))), .own 1 (.list (eRs n (freesOf n B pre))), .dead, .dead, .dead, .dead, .dead])]
    · simp [frees]
    · rfl
    · rfl
    · intro pre p post hp
      have hpn : p < n := List.mem_range.1 (by rw [hp]; simp)
      have hpl : pre.length < lim := by
        have := congrArg List.length hp
        simp at this
        unfold lim; omega
      have hpl' : (eRs n (freesOf n B pre)).length < lim := by
        unfold eRs freesOf
        rw [List.length_map, List.length_map]
        exact Nat.lt_of_le_of_lt (List.length_filter_le _ _) hpl
      simp [nin_lead]
      cases hc : isLead n B p with
      | true => simp [freesOf, hc]
      | false =>
        simp
        rw [comp_if B (fun b => .tuple [.int (lo n b : Nat), eR n b]) (fun b => b.testBit p) (fun b => .int (lo n b : Nat))]
        · have h1 : 1 + (B.filter (·.testBit p)).length ≤ lim := by have := List.length_filter_le (·.testBit p) B; unfold lim; omega
          simp [add_lst, h1, chg, ownL]
          rw [comp_map (List.range n) (fun i => .int (i : Nat)) (eB (fv n B p))]
          · simp [oApp, hpl']
            simp [setL, freesOf, hc, eRs, eR]
          · simp [rngM_nat hl]
          · intro q hq
            simp [ones_fv hR hc]
            rfl
          · simpa using hl
        · simp [eRs, items, List.zip_map', hc, Function.comp_def]
        · intro b hb
          simp [eR_ix hpn]
          cases b.testBit p <;> rfl
        · unfold lim; omega
  · rfl
  · intro b hb
    simp [first_one_ev (hR.nz b hb) (hR.lt b hb)]
  · unfold lim; omega
theorem free_lt {n : Nat} {B : List Nat} (hR : Rd n B) : ∀ f ∈ frees n B, f < 2 ^ n := by
  intro f hf
  obtain ⟨p, hp, e⟩ := List.mem_map.1 hf
  rw [← e]
  exact Gf.fv_lt (List.mem_range.1 (List.mem_filter.1 hp).1) fun b hb => (hR.lo hb).1
theorem frees_iff {n v : Nat} {B : List Nat} (hR : Rd n B) (hv : v < 2 ^ n) : (∀ f ∈ frees n B, dot n v f = false) ↔ sp B v := by
  rw [← Gf.free_iff hR hv]
  unfold frees freesOf
  constructor
  · intro h p hp hl
    refine h _ (List.mem_map.2 ⟨p, List.mem_filter.2 ⟨List.mem_range.2 hp, ?_⟩, rfl⟩)
    cases hc : isLead n B p with
    | true => exact absurd (isLead_iff.1 hc) hl
    | false => rfl
  · intro h f hf
    obtain ⟨p, hp, e⟩ := List.mem_map.1 hf
    obtain ⟨h1, h2⟩ := List.mem_filter.1 hp
    rw [← e]
    exact h p (List.mem_range.1 h1) fun hl => by rw [isLead_iff.2 hl] at h2; cases h2
theorem frees_len {n : Nat} {B : List Nat} : (frees n B).length ≤ n := by
  unfold frees freesOf
  rw [List.length_map]
  exact Nat.le_trans (List.length_filter_le _ _) (by simp)
theorem has_row_ev {n v : Nat} {rows : List Nat} (hn : n ≤ 1000) (hr : ∀ r ∈ rows, r < 2 ^ n) (hv : v < 2 ^ n) :
    ∃ b : Bool, F_has_row [.vw 0 (.tuple [.int (n : Nat), .tuple (eRs n rows)]), .vw 0 (eR n v)] = ret (.bool b) ∧ (b = true ↔ sp rows v) := by
  obtain ⟨B, hR, hE, e⟩ := free_base_ev hn hr
  have hl := lim_of hn
  refine ⟨(frees n B).all fun f => !dot n v f, ?_, ?_⟩
  · simp [F_has_row, b_has_row, e]
    rw [comp_map (frees n B) (eR n) (fun f => .bool (!dot n v f))]
    · simp [all_bools]
    · simp [e]; rfl
    · intro f hf
      simp [are_even_ev hl]
    · exact Nat.le_trans frees_len hl
  · rw [← hE v, ← frees_iff hR hv]
    simp
end K75
end

section
set_option linter.all false
set_option Elab.async false
set_option maxRecDepth 100000
namespace K75
open PySem hiding ret
open Ev
open Gf (sp lo rdc tstep Rd Eq2 Tri told fv dot par Inc S sd rstep fstep LotInv)
def eL (l : List Int) : D := .tuple (l.map .int)
def eP (n : Nat) (p : Nat × List Int) : D := .tuple [eR n p.1, eL p.2]
theorem in_eL (k : Int) (l : List Int) : inS (.int k) (eL l) = some (.bool (l.contains k)) := in_tI k l
theorem sortI'_ints (l : List Int) : sortI' (.list (l.map .int)) = some (.list ((isort l).map .int)) := by
  unfold sortI'
  dsimp only
  rw [asInts_id]; rfl
theorem reduced_ev {n k : Nat} {rows : List Nat} {found : List (Nat × List Int)} {p : Nat × List Int} (hn : n ≤ 1000) (hk : k ≤ 1000) (e : k = rows.length) (hf : ∀ q ∈ found, Inc k q.2 ∧ q.1 = S rows q.2) (h0 : ∀ q ∈ found, q.1 ≠ 0 ∧ q.1 < 2 ^ n) (hp : Inc k p.2) :
    F_reduced [.vw 0 (eP n p), .vw 1 (.list (found.map (eP n)))] = ret (eP n (found.foldl (rstep n) p)) := by
  have hl := lim_of hn
  simp [F_reduced, b_reduced, eP]
  rw [forL_pre found (eP n) (fun pre => [.vw 0 (eP n p), .vw 1 (.list (found.map (eP n))), .vw 0 (eR n (pre.foldl (rstep n) p).1), .vw 0 (eL (pre.foldl (rstep n) p).2), .dead, .dead, .dead])]
  · simp
  · rfl
  · rfl
  · intro pre q post he
    have hq : q ∈ found := by rw [he]; simp
    have hpre := Gf.rfold (n := n) e (fun r hr => hf r (by rw [he]; simp [hr])) hp (found := pre)
    rw [List.foldl_append, List.foldl_cons, List.foldl_nil]
    generalize pre.foldl (rstep n) p = c at hpre ⊢
    obtain ⟨q1, q2⟩ := h0 q hq
    obtain ⟨_, hc, _⟩ := hpre
    have hqi := (hf q hq).1
    have l1 := hc.len
    have l2 := hqi.len
    have hlen : c.2.length + q.2.length ≤ lim := by unfold lim; omega
    simp [eP, first_one_ev q1 q2, eR_ix (Gf.lo_some q1 q2).1]
    unfold rstep
    cases hb : c.1.testBit (lo n q.1) with
    | false => simp
    | true =>
      simp [sum_of_ev hl]
      rw [comp_if (c.2 ++ q.2) (fun i => .int i) (fun i => c.2.contains i != q.2.contains i) (fun i => .int i)]
      · have hs : sortI' (.list (((c.2 ++ q.2).filter fun i => c.2.contains i != q.2.contains i).map fun i => .int i)) = some (.list ((sd c.2 q.2).map .int)) := sortI'_ints _
        simp only [bnd_ret, hs, lft_some, tt_lst]
        simp [eL]
      · simp [eL, hlen]
      · intro i hi
        simp [in_eL]
        by_cases a : i ∈ c.2 <;> by_cases b : i ∈ q.2 <;> simp [a, b]
      · simpa using hlen
theorem sum_of_rows_ev {n : Nat} (hn : n ≤ 1000) (rs : List Nat) : F_sum_of_rows [.vw 0 (.int (n : Nat)), .vw 0 (.list (eRs n rs))] = ret (eR n (rs.foldl (· ^^^ ·) 0)) := by
  have hl := lim_of hn
  have hz : mulD (.tuple [.int 0]) (.int (n : Nat)) = some (eR n 0) := by
    unfold mulD eR eB bit repL
    simp [hn]
    rw [List.map_const']
    simp
  simp [F_sum_of_rows, b_sum_of_rows, hz]
  rw [forL_pre rs (eR n) (fun pre => [.vw 0 (.int (n : Nat)), .vw 0 (.list (eRs n rs)), .vw 0 (eR n (pre.foldl (· ^^^ ·) 0)), .dead])]
  · simp
  · rfl
  · rfl
  · intro pre r post he
    simp [sum_of_ev hl]
theorem lot_ev {d : D} {n v : Nat} {rows : List Nat} (hd : items d = some (eRs n rows)) (hn : n ≤ 1000) (hk : rows.length ≤ 1000) (hr : ∀ r ∈ rows, r < 2 ^ n) (hv : v < 2 ^ n) :
    (sp rows v ∧ ∃ l, Inc rows.length l ∧ S rows l = v ∧ F_lot_that_makes [.vw 0 d, .vw 0 (eR n v)] = ret (eL l)) ∨
    (¬ sp rows v ∧ F_lot_that_makes [.vw 0 d, .vw 0 (eR n v)] = ret .none) := by
  have hl := lim_of hn
  have inv := Gf.lotInv hr
  have hI := inv rows.length (Nat.le_refl _)
  have hfull : rows.zipIdx.take rows.length = rows.zipIdx := List.take_of_length_le (by simp)
  rw [hfull, List.take_length] at hI
  obtain ⟨h1, h2, h3⟩ := Gf.rfold (n := n) (rows := rows) rfl (p := (v, ([] : List Int))) hI.ok ⟨.nil, fun _ h => (by cases h)⟩
  have hq := fun q (hq : q ∈ rows.zipIdx.foldl (fstep n) []) => (⟨hI.tri.nz q.1 (List.mem_map_of_mem hq), hI.tri.lt q.1 (List.mem_map_of_mem hq)⟩ : q.1 ≠ 0 ∧ q.1 < 2 ^ n)
  have red := reduced_ev (p := (v, [])) hn hk rfl hI.ok hq ⟨.nil, fun _ h => (by cases h)⟩
  have hlt : ((rows.zipIdx.foldl (fstep n) []).foldl (rstep n) (v, [])).1 < 2 ^ n := by
    rw [h1]; exact Gf.rdc_lt hI.tri.lt hv
  have main : F_lot_that_makes [.vw 0 d, .vw 0 (eR n v)] = ret (if ((rows.zipIdx.foldl (fstep n) []).foldl (rstep n) (v, [])).1 = 0 then eL ((rows.zipIdx.foldl (fstep n) []).foldl (rstep n) (v, [])).2 else .none) := by
    simp [F_lot_that_makes, b_lot_that_makes, hd]
    rw [forL_pre rows.zipIdx (fun q => .tuple [.int (q.2 : Nat), eR n q.1]) (fun pre => [.vw 0 d, .vw 0 (eR n v), .own 1 (.list ((pre.foldl (fstep n) []).map (eP n))), .dead, .dead, .dead, .dead])]
    · simp
      rw [show (.tuple [eR n v, .tuple []] : D) = eP n (v, []) from rfl, red]
      simp [eP, one_in hlt]
      split <;> simp [*]
    · simp [eRs, List.zipIdx_map, Function.comp_def]
    · rfl
    · intro pre ri post he
      have hpl : pre.length < rows.length := by
        have := congrArg List.length he
        simp at this; omega
      have hpre : pre = rows.zipIdx.take pre.length := by rw [he]; simp
      have hri : ri = (rows[pre.length], pre.length) := by
        have : rows.zipIdx[pre.length]? = some ri := by rw [he]; simp
        rw [List.getElem?_eq_getElem (by simpa using hpl)] at this
        simp at this
        exact this.symm
      have ip := inv pre.length (by omega)
      rw [← hpre] at ip
      have hx : ri.1 < 2 ^ n := by rw [hri]; exact hr _ (List.getElem_mem _)
      have hinc : Inc rows.length [(ri.2 : Int)] := ⟨List.pairwise_singleton _ _, fun j hj => by rw [List.mem_singleton] at hj; rw [hri] at hj; omega⟩
      have hq' := fun q (hq : q ∈ pre.foldl (fstep n) []) => (⟨ip.tri.nz q.1 (List.mem_map_of_mem hq), ip.tri.lt q.1 (List.mem_map_of_mem hq)⟩ : q.1 ≠ 0 ∧ q.1 < 2 ^ n)
      have red' := reduced_ev (p := (ri.1, [(ri.2 : Int)])) hn hk rfl ip.ok hq' hinc
      have hr1 := (Gf.rfold (n := n) (rows := rows) rfl (p := (ri.1, [(ri.2 : Int)])) ip.ok hinc).1
      have hlt' : ((pre.foldl (fstep n) []).foldl (rstep n) (ri.1, [(ri.2 : Int)])).1 < 2 ^ n := by
        rw [hr1]; exact Gf.rdc_lt ip.tri.lt hx
      have hlen : (pre.foldl (fstep n) []).length < lim := by
        have : ∀ (ps : List (Nat × Nat)) (f0 : List (Nat × List Int)), (ps.foldl (fstep n) f0).length ≤ f0.length + ps.length := by
          intro ps
          induction ps with
          | nil => intro f0; simp
          | cons x ps ih =>
            intro f0
            rw [List.foldl_cons]
            refine Nat.le_trans (ih _) ?_
            have : (fstep n f0 x).length ≤ f0.length + 1 := by
              unfold fstep; dsimp only; split <;> simp
            simp; omega
        have := this pre []
        simp at this
        unfold lim; omega
      rw [List.foldl_append, List.foldl_cons, List.foldl_nil]
      have es : fstep n (pre.foldl (fstep n) []) ri = if ((pre.foldl (fstep n) []).foldl (rstep n) (ri.1, [(ri.2 : Int)])).1 = 0 then pre.foldl (fstep n) [] else pre.foldl (fstep n) [] ++ [(pre.foldl (fstep n) []).foldl (rstep n) (ri.1, [(ri.2 : Int)])] := rfl
      rw [es]
      generalize pre.foldl (fstep n) [] = F at *
      simp
      rw [show (.tuple [eR n ri.1, .tuple [.int (ri.2 : Nat)]] : D) = eP n (ri.1, [(ri.2 : Int)]) from rfl, red']
      generalize F.foldl (rstep n) (ri.1, [(ri.2 : Int)]) = q at *
      by_cases z : q.1 = 0
      · have ho := one_in hlt'
        simp only [z] at ho
        simp [eP, ho, z]
      · simp [eP, one_in hlt', z, chg, ownL, oApp, hlen, setL]
  have hsp : sp rows v ↔ ((rows.zipIdx.foldl (fstep n) []).foldl (rstep n) (v, [])).1 = 0 := by
    rw [h1, ← hI.tri.sp_iff]; exact (hI.eq v).symm
  by_cases z : ((rows.zipIdx.foldl (fstep n) []).foldl (rstep n) (v, [])).1 = 0
  · refine .inl ⟨hsp.2 z, _, h2, ?_, by rw [main, if_pos z]⟩
    rw [z, Nat.zero_xor] at h3
    rw [h3, Gf.S_nil]; simp
  · exact .inr ⟨fun h => z (hsp.1 h), by rw [main, if_neg z]⟩
end K75
end

section
set_option linter.all false
set_option Elab.async false
set_option maxRecDepth 100000
namespace K75
open PySem hiding ret
open Ev
open Gf (sp lo rdc tstep Rd Eq2 Tri told fv dot par Inc S clr lstep Asc LInv)
theorem eR_ne {n a b : Nat} (ha : a < 2 ^ n) (hb : b < 2 ^ n) : neD (eR n a) (eR n b) = some (.bool (a != b)) := by
  have h : ∀ v, SeqAt.shaped (eR n v) = true := fun v => shaped_ti (bit v) (List.range n)
  unfold neD
  rw [h, h]
  have e : PyData.eqv (eR n a) (eR n b) = (a == b) := by
    have : ∀ xs : List Nat, PyData.eqvAll (xs.map (eB a)) (xs.map (eB b)) = xs.all fun i => a.testBit i == b.testBit i := by
      intro xs
      induction xs with
      | nil => simp [PyData.eqvAll]
      | cons x xs ih =>
        simp only [List.map_cons, PyData.eqvAll, List.all_cons, ih]
        congr 1
        unfold eB bit
        rw [eqv_int]
        cases a.testBit x <;> cases b.testBit x <;> rfl
    have e1 : PyData.eqv (eR n a) (eR n b) = PyData.eqvAll ((List.range n).map (eB a)) ((List.range n).map (eB b)) := by
      unfold eR; simp [PyData.eqv]
    rw [e1, this, Bool.eq_iff_iff]
    simp
    constructor
    · intro h; exact Gf.bext ha hb h
    · intro h; subst h; intros; rfl
  simp [e]
  cases h : a == b <;> simp_all
theorem ne_eRs0 {n : Nat} (rows : List Nat) : neD (.list (eRs n rows)) (.list []) = some (.bool (!rows.isEmpty)) := by
  have h1 : ∀ rows : List Nat, PyData.canLayAll0 (eRs n rows) = true := by
    intro rows
    induction rows with
    | nil => simp [eRs, PyData.canLayAll0]
    | cons r rows ih =>
      have : (eR n r).canLay0 = true := by
        unfold eR PyData.canLay0; exact canAll_ints (bit r) _
      simp only [eRs, List.map_cons, PyData.canLayAll0] at ih ⊢
      rw [this, ih]; rfl
  have h2 : ∀ rows : List Nat, PyData.depthAll (eRs n rows) ≤ 1 := by
    intro rows
    induction rows with
    | nil => simp [eRs, PyData.depthAll]
    | cons r rows ih =>
      have : (eR n r).depth ≤ 1 := by
        unfold eR PyData.depth
        rw [show PyData.depthAll ((List.range n).map (eB r)) = 0 from depAll_ints (bit r) _]; exact Nat.le_refl _
      simp only [eRs, List.map_cons, PyData.depthAll] at ih ⊢
      omega
  have h3 : SeqAt.shaped (.list (eRs n rows)) = true := by
    unfold SeqAt.shaped PyData.canLay0 PyData.depth
    rw [h1]
    have := h2 rows
    simp; omega
  unfold neD
  rw [h3, show SeqAt.shaped (.list []) = true from shaped_li (α := Int) id [], eqv_li0]
  simp [eRs]
theorem law_told_ev {n k : Nat} {rows : List Nat} (hn : n ≤ 1000) (hk : rows.length ≤ 1000) (hr : ∀ r ∈ rows, r < 2 ^ n) {d : D} (hd : d = .list (eRs n rows) ∨ d = .tuple (eRs n rows)) (hk' : k ≤ 1) :
    F__law_told [.vw 0 (.int (n : Nat)), .vw k d] = ret (.tuple (eRs n (told n rows))) := by
  have hl := lim_of hn
  have hlst : toLst d = some (.list (eRs n rows)) := by rcases hd with e | e <;> subst e <;> rfl
  simp [F__law_told, b__law_told, hk', hlst]
  rw [rngM_nat hl, bnd_ret]
  rw [forL_pre (List.range n) (fun i => .int (i : Nat)) (fun pre => [.vw 0 (.int (n : Nat)), .vw k d, .vw 0 (.list (eRs n (pre.foldl lstep (rows, [])).1)), .vw 0 (.list (eRs n (pre.foldl lstep (rows, [])).2)), .dead, .dead, .dead, .dead])]
  · simp [told]
  · rfl
  · rfl
  · intro pre p post he
    have hpn : p < n := List.mem_range.1 (by rw [he]; simp)
    have hpl : pre.length < n := by
      have := congrArg List.length he
      simp at this; omega
    have hpre : pre = List.range pre.length := by
      have := congrArg (List.take pre.length) he
      simp at this
      rw [← this, Nat.min_eq_left (by omega)]; simp
    have I := Gf.lsteps hr pre.length (by omega)
    rw [← hpre] at I
    have hlen1 : ∀ ps : List Nat, (ps.foldl lstep (rows, [])).1.length ≤ rows.length := by
      intro ps
      have one : ∀ (st : List Nat × List Nat) p, (lstep st p).1.length ≤ st.1.length := by
        intro st p
        unfold lstep
        split
        · exact Nat.le_refl _
        · rw [List.length_map]; exact List.length_filter_le _ _
      suffices q : ∀ (ps : List Nat) (st : List Nat × List Nat), (ps.foldl lstep st).1.length ≤ st.1.length from q ps _
      intro ps
      induction ps with
      | nil => intro st; exact Nat.le_refl _
      | cons p ps ih => intro st; exact Nat.le_trans (ih _) (one st p)
    have hlen2 : (pre.foldl lstep (rows, [])).2.length ≤ n := Rd.le I.rd
    have hlen1 := hlen1 pre
    rw [List.foldl_append, List.foldl_cons, List.foldl_nil]
    generalize pre.foldl lstep (rows, []) = st at I hlen1 hlen2 ⊢
    obtain ⟨left, found⟩ := st
    simp only at hlen1 hlen2
    simp
    rw [comp_if left (eR n) (fun r => r.testBit p) (eR n)]
    · unfold lstep
      dsimp only
      cases hF : left.filter (·.testBit p) with
      | nil =>
        have := ne_eRs0 (n := n) []
        simp only [eRs, List.map_nil] at this
        simp [this]
      | cons h t =>
        have hh : h ∈ left := (List.mem_filter.1 (by rw [hF]; simp : h ∈ left.filter (·.testBit p))).1
        have hh2 : h < 2 ^ n := I.lt h hh
        have := ne_eRs0 (n := n) (h :: t)
        simp only [eRs, List.map_cons] at this
        simp [this]
        rw [comp_map found (eR n) (fun b => eR n (clr p h b))]
        · have hl2 : found.length + 1 ≤ lim := by unfold lim; omega
          simp [add_lst, hl2]
          rw [comp_if left (eR n) (fun r => r != h) (fun b => eR n (clr p h b))]
          · simp [eRs, Function.comp_def]
          · rfl
          · intro r hr
            have hr2 : r < 2 ^ n := I.lt r hr
            simp [eR_ne hr2 hh2, eR_ix hpn]
            by_cases c : r = h
            · simp [c]
            · cases c2 : r.testBit p <;> simp [c, c2, clr, law_sum_ev hl]
          · unfold lim; omega
        · rfl
        · intro b hb
          simp [eR_ix hpn]
          cases c2 : b.testBit p <;> simp [c2, clr, law_sum_ev hl]
        · unfold lim; omega
    · rfl
    · intro r hr
      simp [eR_ix hpn]
      cases r.testBit p <;> rfl
    · unfold lim; omega
end K75
end

section
set_option linter.all false
set_option Elab.async false
set_option maxRecDepth 100000
namespace K75
open PySem hiding ret
open Ev
open Gf (sp lo rdc tstep Rd Eq2 Tri told fv dot par Inc S clr lstep Asc LInv)
theorem law_has_ev {n v : Nat} {rows : List Nat} (hn : n ≤ 1000) (hk : rows.length ≤ 999) (hr : ∀ r ∈ rows, r < 2 ^ n) (hv : v < 2 ^ n) (hi : (told n rows).length = rows.length) :
    ∃ b : Bool, F__law_has [.vw 0 (.tuple [.int (n : Nat), .tuple (eRs n rows)]), .vw 0 (eR n v)] = ret (.bool b) ∧ (b = true ↔ sp rows v) := by
  have hl := lim_of hn
  have hr' : ∀ r ∈ rows ++ [v], r < 2 ^ n := fun r h => (List.mem_append.1 h).elim (hr r) fun h => by rw [List.mem_singleton] at h; subst h; exact hv
  have e := law_told_ev (k := 1) (rows := rows ++ [v]) hn (by simp; omega) hr' (.inl rfl) (Nat.le_refl _)
  refine ⟨(told n (rows ++ [v])).length == rows.length, ?_, ?_⟩
  · have h1 : rows.length + 1 ≤ lim := by unfold lim; omega
    have h2 : eRs n (rows ++ [v]) = eRs n rows ++ [eR n v] := by simp [eRs]
    rw [h2] at e
    simp [F__law_has, b__law_has, add_lst, eRs_len, h1, e, icastb]
  · rw [beq_iff_eq]
    exact Gf.told_len_iff hr hv hi
theorem leading_ev {n : Nat} {B : List Nat} (hR : Rd n B) (hn : n ≤ 1000) : F__law_leading [.vw 0 (.tuple (eRs n B))] = ret (.tuple (B.map fun b => .int (lo n b : Nat))) := by
  have := Rd.le hR
  simp [F__law_leading, b__law_leading]
  rw [comp_map B (eR n) (fun b => .int (lo n b : Nat))]
  · simp
  · rfl
  · intro b hb
    simp [idx_eR (hR.nz b hb) (hR.lt b hb)]
  · unfold lim; omega
theorem law_free_ev {n : Nat} {rows : List Nat} (hn : n ≤ 1000) (hk : rows.length ≤ 1000) (hr : ∀ r ∈ rows, r < 2 ^ n) :
    F__law_free [.vw 0 (.int (n : Nat)), .vw 0 (.tuple (eRs n rows))] = ret (.tuple (eRs n (frees n (told n rows)))) := by
  have hl := lim_of hn
  have e := law_told_ev (k := 1) hn hk hr (.inr rfl) (Nat.le_refl _)
  obtain ⟨hR, _, hE⟩ := Gf.told_spec hr
  generalize told n rows = B at *
  have hB := Rd.le hR
  simp [F__law_free, b__law_free, e, leading_ev hR hn]
  rw [comp_if (List.range n) (fun i => .int (i : Nat)) (fun p => !isLead n B p) (fun i => .int (i : Nat))]
  · simp
    rw [forL_pre ((List.range n).filter fun p => !isLead n B p) (fun i => .int (i : Nat)) (fun pre => [.vw 0 (.int (n : Nat)), .vw 0 (.tuple (eRs n rows)), .vw 0 (.tuple (eRs n B)), .own 1 (.list (eRs n (pre.map (fv n B)))), .vw 0 (.tuple (B.map fun b => .int (lo n b : Nat))), .dead, .dead, .dead, .dead])]
    · simp [frees, freesOf]
    · rfl
    · rfl
    · intro pre p post hp
      have hpm : p ∈ (List.range n).filter fun p => !isLead n B p := by rw [hp]; simp
      obtain ⟨h1, h2⟩ := List.mem_filter.1 hpm
      have hpn := List.mem_range.1 h1
      have hc : isLead n B p = false := by cases h : isLead n B p <;> simp_all
      have hpl' : (eRs n (pre.map (fv n B))).length < lim := by
        have := congrArg List.length hp
        have := List.length_filter_le (fun p => !isLead n B p) (List.range n)
        simp [eRs] at *
        unfold lim; omega
      simp
      rw [comp_if B (eR n) (fun b => b.testBit p) (fun b => .int (lo n b : Nat))]
      · have h1 : 1 + (B.filter (·.testBit p)).length ≤ lim := by have := List.length_filter_le (·.testBit p) B; unfold lim; omega
        simp [add_lst, h1, chg, ownL]
        rw [comp_map (List.range n) (fun i => .int (i : Nat)) (eB (fv n B p))]
        · simp [oApp, hpl']
          simp [setL, eRs, eR]
        · simp [rngM_nat hl]
        · intro q hq
          simp [ones_fv hR hc]
          rfl
        · simpa using hl
      · rfl
      · intro b hb
        simp [eR_ix hpn, idx_eR (hR.nz b hb) (hR.lt b hb)]
        cases b.testBit p <;> rfl
      · unfold lim; omega
  · simp [rngM_nat hl]
  · intro p hp
    simp [nin_leadT]
    cases isLead n B p <;> rfl
  · simpa using hl
theorem law_other_ev {n : Nat} {rows : List Nat} (hn : n ≤ 1000) (hk : rows.length ≤ 1000) (hr : ∀ r ∈ rows, r < 2 ^ n) :
    F__law_other [.vw 0 (.tuple [.int (n : Nat), .tuple (eRs n rows)])] = ret (.tuple [.int (n : Nat), .tuple (eRs n (told n (frees n (told n rows))))]) := by
  obtain ⟨hR, _, hE⟩ := Gf.told_spec hr
  have e := law_free_ev hn hk hr
  have e2 := law_told_ev (k := 1) (rows := frees n (told n rows)) hn (Nat.le_trans frees_len hn) (free_lt hR) (.inr rfl) (Nat.le_refl _)
  simp [F__law_other, b__law_other, e, e2]
end K75
end

section
set_option linter.all false
set_option Elab.async false
set_option maxRecDepth 100000
namespace K75
open PySem hiding ret
open Ev
open Gf (sp lo rdc tstep Rd Eq2 Tri told fv dot par Inc S clr lstep Asc LInv)
def pickC : EvT := (andT (tst (bin gtD (rd 0 1) (cst (.int 1)))) (andT (tst (bin ltD (srcG .left 0) (cst (.int 2)))) (tst (bin gtD (srcLen 0) (cst (.int 0))))))
def pickB : EvS := (seq (srcPop .left 0) pass)
theorem pickC_ev {m : Int} (s : Src) : pickC [.src, .vw 0 (.int m), .dead, .dead] s = some (decide (1 < m) && (decide (s.left < 2) && decide ((0 : Int) < (s.cells.length : Int))), s) := by
  simp [pickC]
  by_cases h : 1 < m
  · simp [h, srcG, srcLen, bnd, Ev.ret, lft, Fld.get]
    by_cases h2 : s.left < 2
    · simp [h2]; show some (decide ((0 : Int) < (s.cells.length : Int)), s) = _; simp
    · simp [h2]
  · simp [h]
theorem pickW : ∀ (k : Nat) (m : Int) (s : Src), s.cells.length < k → ∃ s', whl pickC pickB [] k [.src, .vw 0 (.int m), .dead, .dead] s = some (.nx [.src, .vw 0 (.int m), .dead, .dead], s') ∧ s'.cells.length ≤ s.cells.length
  | 0, _, _, h => absurd h (Nat.not_lt_zero _)
  | k + 1, m, s, h => by
    unfold whl
    rw [bnd_of (pickC_ev s)]
    by_cases c : (decide (1 < m) && (decide (s.left < 2) && decide ((0 : Int) < (s.cells.length : Int)))) = true
    · rw [if_pos c]
      have hc : 0 < s.cells.length := by simp at c; omega
      have hne : s.cells ≠ [] := List.ne_nil_of_length_pos hc
      have hl : s.cells.getLast? = some (s.cells.getLast hne) := List.getLast?_eq_some_getLast hne
      have hb : pickB [.src, .vw 0 (.int m), .dead, .dead] s = some (.nx [.src, .vw 0 (.int m), .dead, .dead], { s with cells := s.cells.dropLast, left := s.cells.getLast hne }) := by
        simp [pickB, srcPop, bnd, hl, Fld.put, Ev.ret]
      rw [bnd_of hb]
      obtain ⟨s', e, h2⟩ := pickW k m { s with cells := s.cells.dropLast, left := s.cells.getLast hne } (by simp; omega)
      refine ⟨s', e, Nat.le_trans h2 (by simp)⟩
    · rw [if_neg c]
      exact ⟨s, rfl, Nat.le_refl _⟩
theorem okG {ss : Slots} {f : Fld} {i : Nat} (h : ss[i]? = some .src) : Ok (srcG f i ss) fun d => ∃ v : Int, d = .int v := fun s hs => ⟨.int (f.get s), s, by unfold srcG; rw [h], hs, _, rfl⟩
theorem okPut {ss : Slots} {f : Fld} {i : Nat} {e : EvE} (h : ss[i]? = some .src) (he : Ok (e ss) fun d => ∃ v : Int, d = .int v) : Ok (srcPut f i e ss) fun o => o = .nx ss := by
  unfold srcPut
  refine he.bnd fun d ⟨v, hv⟩ => ?_
  subst hv
  intro s hs
  rw [h]
  exact ⟨_, _, rfl, by cases f <;> exact hs, rfl⟩
theorem pick_ok {many : Nat} (h : many < 1073741824) : Ok (F__law_pick [.src, .vw 0 (.int (many : Nat))]) fun d => ∃ r : Nat, d = .int (r : Nat) ∧ r < max 1 many := by
  have hw : Ok (whl pickC pickB [] 200 [.src, .vw 0 (.int (many : Nat)), .dead, .dead]) fun o => o = .nx [.src, .vw 0 (.int (many : Nat)), .dead, .dead] := fun s hs => by
    obtain ⟨s1, e1, h1⟩ := pickW 200 many s (by omega)
    exact ⟨_, s1, e1, by omega, rfl⟩
  have hM : max2 (.int 1) (.int (many : Nat)) = some (.int ((max 1 many : Nat) : Int)) := by
    rw [max_2]; congr 2; split <;> omega
  have hp : (0 : Int) < ((max 1 many : Nat) : Int) := by omega
  have hp2 : ((max 1 many : Nat) : Int).natAbs < 1073741824 := by omega
  unfold F__law_pick b__law_pick
  rw [ev_runF]
  simp only [List.cons_append, List.nil_append, List.length_cons, List.length_nil, Nat.reduceAdd, Nat.reduceSub, List.replicate, ev_seq, bnd_bnd]
  refine Ok.bnd hw fun o ho => ?_
  subst ho
  simp
  refine (okG rfl).bnd fun d hd => ?_
  obtain ⟨left, rfl⟩ := hd
  simp
  by_cases hA : ((many : Int) < 2 ∨ 1 < left)
  · have e : (if (many : Int) < 2 then ret true else ret (decide (1 < left))) = ret true := by
      by_cases h2 : (many : Int) < 2
      · rw [if_pos h2]
      · rw [if_neg h2, decide_eq_true (hA.resolve_left h2)]
    rw [e]
    simp
    refine (okPut rfl (.eq (a := .int (left / ((max 1 many : Nat) : Int))) (by simp [hM, fdiv_pos left hp hp2]) ⟨_, rfl⟩)).bnd fun o ho => ?_
    subst ho
    simp [hM, mod_pos left hp]
    refine .ret ⟨(left % ((max 1 many : Nat) : Int)).toNat, ?_, ?_⟩
    · have := Int.emod_nonneg left (by omega : ((max 1 many : Nat) : Int) ≠ 0)
      congr 1; omega
    · have := Int.emod_nonneg left (by omega : ((max 1 many : Nat) : Int) ≠ 0)
      have := Int.emod_lt_of_pos left hp
      omega
  · have hA1 : ¬ (many : Int) < 2 := fun h => hA (.inl h)
    have hA2 : ¬ 1 < left := fun h => hA (.inr h)
    have e : (if (many : Int) < 2 then ret true else ret (decide (1 < left))) = ret false := by
      rw [if_neg hA1, decide_eq_false hA2]
    rw [e]
    simp
    refine (okPut rfl ((okG rfl).bnd fun d ⟨t, ht⟩ => by subst ht; simp; exact .ret ⟨_, rfl⟩)).bnd fun o ho => ?_
    subst ho
    simp
    refine (okG rfl).bnd fun d ⟨mi, hmi⟩ => ?_
    subst hmi
    refine (okG rfl).bnd fun d ⟨tu, htu⟩ => ?_
    subst htu
    have s1 : small 104729 = true := by decide
    have s2 : small 17 = true := by decide
    simp [mul_sml _ s1, mod_pos (b := 998244353) _ (by decide)]
    have s3 : small ((mi + tu * 104729) % 998244353) = true := small_of_lt (by omega)
    simp [mul_sml _ s3]
    refine (okG rfl).bnd fun d ⟨tu2, htu2⟩ => ?_
    subst htu2
    simp [mul_sml _ s2, mod_pos (b := 2147483647) _ (by decide)]
    refine (okPut rfl (.eq (by simp; rfl) ⟨_, rfl⟩)).bnd fun o ho => ?_
    subst ho
    have hmp : (0 : Int) < (many : Int) := by omega
    simp [fdiv_pos (b := 16) _ (by decide) (by decide), mod_pos (b := (many : Int)) _ hmp]
    generalize (((mi + tu * 104729) % 998244353 * ((mi + tu * 104729) % 998244353) + tu2 * 17) % 2147483647) / 16 = z
    have := Int.emod_nonneg z (by omega : (many : Int) ≠ 0)
    have := Int.emod_lt_of_pos z hmp
    exact .ret ⟨(z % many).toNat, by congr 1; omega, by omega⟩
end K75
end

section
set_option linter.all false
set_option Elab.async false
set_option maxRecDepth 100000
namespace K75
open PySem hiding ret
open Ev
open Gf (sp lo rdc tstep Rd Eq2 Tri told fv dot par Inc S clr lstep Asc LInv)
theorem of_ok {ds : List D} (h0 : ds ≠ []) (h1 : ds.length < 1073741824) : Ok (F__law_of [.src, .vw 0 (.list ds)]) fun d => d ∈ ds := by
  simp [F__law_of, b__law_of]
  refine (pick_ok h1).bnd fun d hd => ?_
  obtain ⟨r, rfl, hr⟩ := hd
  have hr' : r < ds.length := by have := List.length_pos_iff.2 h0; omega
  simp [ix_ln hr', List.getElem?_eq_getElem hr']
  exact .ret (List.getElem_mem _)
theorem pop_nat {xs : List D} {r : Nat} (h : r < xs.length) (hl : xs.length ≤ lim) : oPop xs [.int (r : Nat)] = some (xs[r], xs.eraseIdx r) := by
  unfold oPop
  dsimp only
  rw [if_pos (wide_nat (by omega))]
  have : Ev.ixN xs.length (r : Int) = some r := by
    unfold Ev.ixN; rw [if_pos (by omega), if_pos (by omega)]; rfl
  rw [this]
  simp [List.getElem?_eq_getElem h]
theorem erase_perm : ∀ (xs : List D) (r : Nat) (h : r < xs.length), (xs[r] :: xs.eraseIdx r).Perm xs
  | x :: xs, 0, _ => .refl _
  | x :: xs, r + 1, h => (List.Perm.swap _ _ _).trans ((erase_perm xs r (by simpa using h)).cons x)
theorem pops_ok {d : D} : ∀ (items xs : List D), items.length = xs.length → xs.length ≤ 1000 →
    Ok (popsF (tName 0 3) [3] 2 (callE F__law_pick (argsS 0 (argsE 0 (un lenD (rd 1 2)) argsN))) items [.src, .vw 1 d, .own 1 (.list xs), .dead]) fun w => w.1.Perm xs
  | [], xs, h, _ => .ret (by cases xs with | nil => exact .refl _ | cons => cases h)
  | i :: items, xs, h, hl => by
    simp at h
    unfold popsF
    simp
    refine (pick_ok (by omega)).bnd fun d hd => ?_
    obtain ⟨r, rfl, hr⟩ := hd
    have hr' : r < xs.length := by omega
    simp [ownL, pop_nat hr' (lim_of hl), setL]
    refine (pops_ok items (xs.eraseIdx r) (by rw [List.length_eraseIdx_of_lt hr']; omega) (by rw [List.length_eraseIdx_of_lt hr']; omega)).bnd fun w hw => .ret ?_
    exact (hw.cons _).trans (erase_perm xs r hr')
theorem mixed_ok {d : D} {ds : List D} (e : toLst d = some (.list ds)) (h : ds.length ≤ 1000) : Ok (F__law_mixed [.src, .vw 1 d]) fun r => ∃ es, r = .list es ∧ es.Perm ds := by
  have hl := lim_of h
  simp [F__law_mixed, b__law_mixed, e]
  unfold retPops
  simp [rngM_nat hl]
  refine (pops_ok (List.map (fun i => .int (i : Nat)) (List.range ds.length)) ds (by simp) h).bnd fun w hw => ?_
  have : w.1.length ≤ lim := by rw [hw.length_eq]; exact hl
  simp [this]
  exact .ret ⟨_, rfl, hw⟩
theorem bits_D {ys : List D} (h : ∀ y ∈ ys, ∃ b : Bool, y = .int (if b then 1 else 0)) : ∃ v, v < 2 ^ ys.length ∧ .tuple ys = eR ys.length v := by
  have : ∃ zs : List Int, ys = zs.map .int ∧ ∀ z ∈ zs, z = 0 ∨ z = 1 := by
    induction ys with
    | nil => exact ⟨[], rfl, fun _ h => (by cases h)⟩
    | cons y ys ih =>
      obtain ⟨zs, e, hz⟩ := ih fun z hz => h z (List.mem_cons_of_mem _ hz)
      obtain ⟨b, hb⟩ := h y List.mem_cons_self
      refine ⟨(if b then 1 else 0) :: zs, by rw [e, hb]; rfl, fun z hz' => ?_⟩
      rcases List.mem_cons.1 hz' with q | q
      · rw [q]; cases b <;> simp
      · exact hz z q
  obtain ⟨zs, e, hz⟩ := this
  obtain ⟨v, h1, h2⟩ := bits_of zs hz
  have hl : ys.length = zs.length := by rw [e]; simp
  refine ⟨v, by rw [hl]; exact h1, ?_⟩
  rw [hl]
  unfold eR eB
  rw [e]
  congr 1
  conv => lhs; rw [h2]
  rw [List.map_map]; rfl
theorem row_ok {n : Nat} (hn : n ≤ 1000) : Ok (F__law_row [.src, .vw 0 (.int (n : Nat))]) fun d => ∃ v, v < 2 ^ n ∧ d = eR n v := by
  have hl := lim_of hn
  simp [F__law_row, b__law_row]
  refine (of_ok (by simp) (by simp)).bnd fun d hd => ?_
  have : ∃ s : Int, d = .int s := by simp at hd; rcases hd with e | e | e <;> exact ⟨_, e⟩
  obtain ⟨sh, rfl⟩ := this
  refine (Ok.comp (List.range n) (fun i => .int (i : Nat)) (fun _ y => ∃ b : Bool, y = .int (if b then 1 else 0)) (by simp [rngM_nat hl]) ?_ (by simpa using hl)).bnd fun ys hys => ?_
  · intro i hi
    simp
    refine (pick_ok (many := 4) (by decide)).bnd fun d hd => ?_
    obtain ⟨r, rfl, hr⟩ := hd
    simp
    exact .ret (by split <;> simp)
  · obtain ⟨v, h1, h2⟩ := bits_D (ys := ys) fun y hy => (hys.all y hy).elim fun _ h => h.2
    have := hys.len
    simp at this
    rw [← this] at h1 h2
    exact .ret ⟨v, h1, h2⟩
/-- a base of a code of n places -/
structure Base (n : Nat) (B : List Nat) : Prop where
  lt : ∀ b ∈ B, b < 2 ^ n
  ind : (told n B).length = B.length
theorem Base.len {n : Nat} {B : List Nat} (h : Base n B) : B.length ≤ n := by rw [← h.ind]; exact Rd.le (Gf.told_spec h.lt).1
theorem Base.nil {n : Nat} : Base n [] := by
  have h : ∀ b ∈ ([] : List Nat), b < 2 ^ n := fun _ h => by cases h
  refine ⟨h, ?_⟩
  obtain ⟨hR, _, hE⟩ := Gf.told_spec h
  have := Gf.Rd.len hR (.nil : Rd n []) hE
  exact this
theorem Base.snoc {n v : Nat} {B : List Nat} (h : Base n B) (hv : v < 2 ^ n) (hg : B.length < (told n (B ++ [v])).length) : Base n (B ++ [v]) := by
  refine ⟨fun b hb => (List.mem_append.1 hb).elim (h.lt b) fun h => by rw [List.mem_singleton] at h; subst h; exact hv, ?_⟩
  by_cases hs : sp B v
  · rw [Gf.told_in h.lt hv hs, h.ind] at hg; omega
  · rw [Gf.told_out h.lt hv hs, h.ind]; simp
theorem Base.perm {n : Nat} {B C : List Nat} (h : Base n B) (p : C.Perm B) : Base n C := by
  have hc : ∀ b ∈ C, b < 2 ^ n := fun b hb => h.lt b (p.mem_iff.1 hb)
  exact ⟨hc, by rw [Gf.told_same hc h.lt (Gf.Eq2.perm p), h.ind, p.length_eq]⟩
theorem Base.told {n : Nat} {B : List Nat} (h : ∀ b ∈ B, b < 2 ^ n) : Base n (told n B) := by
  obtain ⟨hR, hA, hE⟩ := Gf.told_spec h
  exact ⟨hR.lt, by rw [← Gf.told_uniq hR.lt hR hA (.refl _)]⟩
end K75
end

section
set_option linter.all false
set_option Elab.async false
set_option maxRecDepth 100000
namespace K75
open PySem hiding ret
open Ev
open Gf (sp lo rdc tstep Rd Eq2 Tri told fv dot par Inc S clr lstep Asc LInv)
def addRow : EvS := (seq (ifS (andT (tst (bin ltD (un lenD (rd 1 3)) (rd 0 2))) (tst (bin gtD (un lenD (callE F__law_told (argsE 0 (rd 0 1) (argsE 1 (bin addD (rd 1 3) (lstE (consA (rd 0 5) nilA))) argsN)))) (un lenD (rd 1 3))))) (seq (dropM (chg 3 oApp (consA (rd 0 5) nilA))) pass) pass) pass)
def base1 : EvS := (seq (setS 5 (callE F__law_row (argsS 0 (argsE 0 (rd 0 1) argsN)))) addRow)
def base2 : EvS := (seq (setS 5 (un toTup (compE (comp [7] (rngL (cst (.int 0)) (rd 0 1)) (tName 0 7) yes (un intD (bin eqD (rd 0 7) (rd 0 6))))))) addRow)
theorem base_eq : b__law_base = (seq (newS 1 3 (lstE nilA)) (seq (forS (rngL (cst (.int 0)) (bin mulD (cst (.int 3)) (rd 0 2))) (tName 0 4) base1 [4, 5]) (seq (forS (seqL (callE F__law_mixed (argsS 0 (argsE 1 (compE (tR1 (rd 0 1))) argsN)))) (tName 0 6) base2 [5, 6]) (seq (ifS (tst (bin eqD (callE F__law_pick (argsS 0 (argsE 0 (cst (.int 4)) argsN))) (cst (.int 0)))) (seq (newS 1 3 (un toLst (callE F__law_told (argsE 0 (rd 0 1) (argsE 1 (rd 1 3) argsN))))) pass) pass) (seq (retS (un toTup (callE F__law_mixed (argsS 0 (argsE 1 (rd 1 3) argsN))))) pass))))) := rfl
abbrev bs (n k : Nat) (B : List Nat) (x5 x6 : Slot) (x4 : Slot) : Slots := [.src, .vw 0 (.int (n : Nat)), .vw 0 (.int (k : Nat)), .own 1 (.list (eRs n B)), x4, x5, x6, .dead]
theorem addRow_ev {n k v : Nat} {B : List Nat} (hn : n ≤ 500) (h : Base n B) (hv : v < 2 ^ n) (x4 x6 : Slot) :
    ∃ B', Base n B' ∧ addRow (bs n k B (.vw 0 (eR n v)) x6 x4) = ret (.nx (bs n k B' (.vw 0 (eR n v)) x6 x4)) := by
  have hl := h.len
  have hr' : ∀ r ∈ B ++ [v], r < 2 ^ n := fun r hr => (List.mem_append.1 hr).elim (h.lt r) fun h => by rw [List.mem_singleton] at h; subst h; exact hv
  have e := law_told_ev (k := 1) (rows := B ++ [v]) (by omega) (by simp; omega) hr' (.inl rfl) (Nat.le_refl _)
  have h2 : eRs n (B ++ [v]) = eRs n B ++ [eR n v] := by simp [eRs]
  have h1 : B.length + 1 ≤ lim := by unfold lim; omega
  have h3 : B.length < lim := h1
  rw [h2] at e
  by_cases c : (B.length < k ∧ B.length < (told n (B ++ [v])).length)
  · refine ⟨B ++ [v], h.snoc hv c.2, ?_⟩
    simp [addRow, add_lst, eRs_len, h1, e, c.1, c.2, chg, ownL, oApp, h3, setL, h2, bs]
  · refine ⟨B, h, ?_⟩
    by_cases c1 : B.length < k
    · have c2 : ¬ B.length < (told n (B ++ [v])).length := fun h => c ⟨c1, h⟩
      simp [addRow, add_lst, eRs_len, h1, e, c1, c2, bs]
    · simp [addRow, eRs_len, c1, bs]
theorem unit_ev {n p : Nat} (hl : n ≤ lim) (hp : p < n) {ss : Slots} (h1 : ss[1]? = some (.vw 0 (.int (n : Nat)))) (h6 : ss[6]? = some (.vw 0 (.int (p : Nat)))) (h7 : 7 < ss.length) :
    comp [7] (rngL (cst (.int 0)) (rd 0 1)) (tName 0 7) yes (un intD (bin eqD (rd 0 7) (rd 0 6))) ss = ret ((List.range n).map (eB (2 ^ p))) := by
  rw [comp_map (List.range n) (fun i => .int (i : Nat)) (eB (2 ^ p))]
  · simp [h1, rngM_nat hl]
  · intro q hq
    simp [h6, h7]
    unfold eB bit
    rw [Nat.testBit_two_pow]
    by_cases e : q = p
    · subst e; simp
    · have : ¬ p = q := fun h => e h.symm
      simp [e, this, icast]
  · simpa using hl
theorem base_ok {n k : Nat} (hn : n ≤ 500) (hk : k ≤ 500) : Ok (F__law_base [.src, .vw 0 (.int (n : Nat)), .vw 0 (.int (k : Nat))]) fun d => ∃ B, Base n B ∧ d = .tuple (eRs n B) := by
  have hl := lim_of (show n ≤ 1000 by omega)
  unfold F__law_base
  rw [base_eq, ev_runF]
  have hm : mulD (.int 3) (.int (k : Nat)) = some (.int (3 * (k : Int))) := mul_sml _ (small_of_lt (by omega))
  have hl3 : 3 * k ≤ lim := by unfold lim; omega
  have h2p : ∀ p, p < n → 2 ^ p < 2 ^ n := fun p hp => Nat.pow_lt_pow_right (by decide) hp
  have hr3 : rngM (ret (.int 0)) (ret (.int (3 * (k : Int)))) = ret ((List.range (3 * k)).map fun i => .int (i : Nat)) := by
    rw [show (3 * (k : Int)) = ((3 * k : Nat) : Int) by omega]; exact rngM_nat hl3
  simp [hm, hr3]
  refine (forL_okJ (fun ss => ∃ B, Base n B ∧ ss = bs n k B .dead .dead .dead) ?_ ⟨[], .nil, rfl⟩).bnd fun o ho => ?_
  · intro x hx ss ⟨B, hB, e⟩
    subst e
    simp [base1]
    refine (row_ok (show n ≤ 1000 by omega)).bnd fun d ⟨v, hv, e⟩ => ?_
    subst e
    obtain ⟨B', h1, h2⟩ := addRow_ev (k := k) hn hB hv (.vw 0 x) .dead
    rw [h2]
    simp
    exact .ret ⟨B', h1, rfl⟩
  · obtain ⟨ss, rfl, B, hB, rfl⟩ := ho
    simp [tR1, tR2]
    have hrg : rgOk 0 (n : Int) = true := by
      unfold rgOk
      unfold lim at hl
      simp; omega
    simp [hrg]
    rw [rng0]
    refine (mixed_ok (ds := (List.range n).map fun i => .int (i : Nat)) rfl (by simp; omega)).bnd fun d ⟨es, he, hp⟩ => ?_
    subst he
    simp
    refine (forL_okJ (fun ss => ∃ B, Base n B ∧ ss = bs n k B .dead .dead .dead) ?_ ⟨B, hB, rfl⟩).bnd fun o ho => ?_
    · intro x hx ss ⟨B, hB, e⟩
      subst e
      obtain ⟨p, hp1, rfl⟩ := List.mem_map.1 (hp.mem_iff.1 hx)
      have hpn := List.mem_range.1 hp1
      simp [base2]
      rw [unit_ev hl hpn rfl rfl (by simp [bs])]
      simp
      obtain ⟨B', h1, h2⟩ := addRow_ev (k := k) hn hB (h2p p hpn) .dead (.vw 0 (.int (p : Nat)))
      rw [show (.tuple ((List.range n).map (eB (2 ^ p))) : D) = eR n (2 ^ p) from rfl, h2]
      simp
      exact .ret ⟨B', h1, rfl⟩
    · obtain ⟨ss, rfl, B, hB, rfl⟩ := ho
      simp
      refine (pick_ok (many := 4) (by decide)).bnd fun d ⟨r, hr, _⟩ => ?_
      subst hr
      simp
      have fin : ∀ B, Base n B → Ok (bnd (F__law_mixed [.src, .vw 1 (.list (eRs n B))]) fun a => bnd (lft (toTup a)) fun d => ret d) fun d => ∃ B, Base n B ∧ d = .tuple (eRs n B) := by
        intro B hB
        refine (mixed_ok (ds := eRs n B) rfl (by rw [eRs_len]; have := hB.len; omega)).bnd fun d ⟨es, he, hp⟩ => ?_
        subst he
        obtain ⟨B', hp', e'⟩ := perm_map (eR n) hp B rfl
        subst e'
        simp
        exact .ret ⟨B', hB.perm hp', rfl⟩
      have et := law_told_ev (k := 1) (n := n) (rows := B) (by omega) (by have := hB.len; omega) hB.lt (.inl rfl) (Nat.le_refl _)
      by_cases z : r = 0
      · simp [z, et]
        exact fin _ (Base.told hB.lt)
      · simp [z]
        exact fin B hB
end K75
end

section
set_option linter.all false
set_option Elab.async false
set_option maxRecDepth 100000
namespace K75
open PySem hiding ret
open Ev
open Gf (sp lo rdc tstep Rd Eq2 Tri told fv dot par Inc S clr lstep Asc LInv)
/-- a number from 0 and below k -/
def blw (k : Int) : D → Bool
  | .int i => decide (0 ≤ i) && decide (i < k)
  | _ => false
def isNat : D → Bool
  | .int i => decide (0 ≤ i)
  | _ => false
def isNum : D → Bool
  | .int _ => true
  | _ => false
theorem is_integer_ev (d : D) : F_is_integer [.vw 0 d] = ret (.bool (isNat d)) := by
  cases d <;> simp [F_is_integer, b_is_integer, isiD, isK, isNat]
theorem law_number_ev (d : D) : F__law_number [.vw 0 d] = ret (.bool (isNum d)) := by
  cases d <;> simp [F__law_number, b__law_number, isiD, isK, isNum]
def allBlw (k : Int) : D → Bool
  | .tuple xs => xs.all (blw k)
  | _ => false
theorem blw_ints {k : Int} : ∀ {xs : List D}, xs.all (blw k) = true → ∃ ns : List Int, xs = ns.map .int ∧ ∀ i ∈ ns, 0 ≤ i ∧ i < k
  | [], _ => ⟨[], rfl, fun _ h => (by cases h)⟩
  | x :: xs, h => by
    rw [List.all_cons, Bool.and_eq_true] at h
    obtain ⟨ns, e, hn⟩ := blw_ints h.2
    have h1 := h.1
    cases x <;> try (cases h1; done)
    rename_i i
    unfold blw at h1
    simp at h1
    exact ⟨i :: ns, by rw [e]; rfl, fun j hj => (List.mem_cons.1 hj).elim (fun e => by rw [e]; exact h1) (hn j)⟩
theorem are_below_ev {k : Int} (d : D) (hl : ∀ xs, d = .tuple xs → xs.length ≤ lim) : F__law_are_below [.vw 0 d, .vw 0 (.int k)] = ret (.bool (allBlw k d)) := by
  cases d with
  | tuple xs =>
    simp [F__law_are_below, b__law_are_below, isiD, isK, allBlw]
    rw [comp_if xs (fun x => x) (fun x => !blw k x) (fun _ => .int 1)]
    · simp [eq_li0 (fun _ => (1 : Int))]
      congr 2
      rw [Bool.eq_iff_iff]
      simp [List.filter_eq_nil_iff]
    · simp
    · intro x hx
      simp [law_number_ev]
      cases x <;> simp [isNum, blw]
      rename_i i
      by_cases h1 : 0 ≤ i <;> by_cases h2 : i < k
      · have h3 : ¬ k ≤ i := by omega
        simp [h1, h2, h3]
      · have h3 : k ≤ i := by omega
        simp [h1, h2, h3]
      · simp [h1]
      · simp [h1]
    · exact hl xs rfl
  | _ => simp [F__law_are_below, b__law_are_below, isiD, isK, allBlw]
/-- a row of n places -/
def isRowB (n : Nat) : D → Bool
  | .tuple xs => xs.all (blw 2) && xs.length == n
  | _ => false
theorem law_is_row_ev {n : Nat} (d : D) (hl : ∀ xs, d = .tuple xs → xs.length ≤ lim) : F__law_is_row [.vw 0 (.int (n : Nat)), .vw 0 d] = ret (.bool (isRowB n d)) := by
  simp [F__law_is_row, b__law_is_row, are_below_ev (k := 2) d hl]
  cases d with
  | tuple xs =>
    unfold allBlw isRowB
    dsimp only
    by_cases h : xs.all (blw 2) = true
    · rw [if_pos h, h]; simp [icastb]
    · rw [if_neg h, Bool.eq_false_iff.2 h]; simp
  | _ => simp [allBlw, isRowB]
theorem is_row_ev {n : Nat} (d : D) (hl : ∀ xs, d = .tuple xs → xs.length ≤ lim) : F_is_row [.vw 0 (.int (n : Nat)), .vw 0 d] = ret (.bool (isRowB n d)) := by
  cases d with
  | tuple xs =>
    simp [F_is_row, b_is_row, isiD, isK, isRowB, icastb]
    by_cases h : xs.length = n
    · simp [h]
      rw [comp_map xs (fun x => x) (fun x => .bool (blw 2 x))]
      · simp [all_bools]
      · simp
      · intro x hx
        simp [is_integer_ev]
        cases x <;> simp [isNat, blw]
        rename_i i
        by_cases h1 : 0 ≤ i <;> simp [h1]
      · exact hl xs rfl
    · have : (xs.length == n) = false := by simpa using h
      simp [h]
      rw [this]; simp
  | _ => simp [F_is_row, b_is_row, isiD, isK, isRowB]
theorem isRowB_eR {n : Nat} {d : D} (h : isRowB n d = true) : ∃ f, f < 2 ^ n ∧ d = eR n f := by
  cases d <;> try (cases h; done)
  rename_i xs
  unfold isRowB at h
  rw [Bool.and_eq_true] at h
  obtain ⟨ns, e, hn⟩ := blw_ints h.1
  have hlen : ns.length = n := by have := h.2; rw [e] at this; simpa using this
  obtain ⟨f, h1, h2⟩ := bits_of ns fun y hy => by have := hn y hy; omega
  rw [hlen] at h1 h2
  refine ⟨f, h1, ?_⟩
  rw [e, h2, List.map_map]; rfl
/-- ascending -/
def ascI (ns : List Int) : Bool := (ns.zip ns.tail).all fun q => decide (q.1 < q.2)
theorem zip_tail (ns : List Int) : ns.zip ns.tail = (List.range (ns.length - 1)).map fun i => (ns.getD i 0, ns.getD (i + 1) 0) := by
  apply List.ext_getElem
  · simp
  · intro i h1 h2
    have h3 : i + 1 < ns.length := by simp at h2; omega
    have h4 : i < ns.length := by omega
    simp [h3, h4]
theorem rngM_int {j : Int} (h : j.natAbs ≤ lim) : rngM (ret (.int 0)) (ret (.int j)) = ret ((List.range j.toNat).map fun i => .int (i : Nat)) := by
  have hw : wide j = true := decide_eq_true (by unfold lim at h; omega)
  unfold rngM
  rw [bnd_ret, bnd_ret]
  dsimp only
  rw [wide0, hw]
  simp [rng]
end K75
end

section
set_option linter.all false
set_option Elab.async false
set_option maxRecDepth 100000
namespace K75
open PySem hiding ret
open Ev
open Gf (sp lo rdc tstep Rd Eq2 Tri told fv dot par Inc S clr lstep Asc LInv)
abbrev eC (n : Nat) (B : List Nat) : D := .tuple [.int (n : Nat), .tuple (eRs n B)]
def firstOf (t : Str) (els : D) : List Nat → D
  | [] => els
  | i :: _ => .tuple [.str t, .int (i : Nat)]
/-- not a pair with a word -/
def wrongs (n v w : Nat) : List Nat := (List.range n).filter fun p => w.testBit p != v.testBit p
def odds (n f : Nat) (B : List Nat) : List Nat := (B.zipIdx.filter fun q => dot n q.1 f).map (·.2)
theorem eB_ne (n a b i : Nat) : neD (eB a i) (eB b i) = some (.bool (a.testBit i != b.testBit i)) := by
  unfold eB bit; rw [ne_int]; cases a.testBit i <;> cases b.testBit i <;> rfl
theorem tru_ints {α : Type} (f : α → D) (xs : List α) : truD (.list (xs.map f)) = some (!xs.isEmpty) := by
  simp [truD]
theorem zero_row {n : Nat} (hn : n ≤ 1000) : mulD (.tuple [.int 0]) (.int (n : Nat)) = some (eR n 0) := by
  unfold mulD eR eB bit repL
  simp [hn]
  rw [List.map_const']
  simp
theorem ix_eRs {n j : Nat} {B : List Nat} (hj : j < B.length) : ixS (.tuple (eRs n B)) (.int (j : Nat)) = some (eR n B[j]) := by
  rw [ix_tn (by rw [eRs_len]; exact hj)]; simp [eRs, hj]
theorem zip_odds (n f : Nat) (B : List Nat) : ((B.zipIdx.filter fun q => dot n q.1 f).map fun q => .int (q.2 : Nat) : List D) = (odds n f B).map fun i => .int (i : Nat) := by
  unfold odds; rw [List.map_map]; rfl
theorem zip_len (n : Nat) (B : List Nat) : ((eRs n B).zipIdx.map fun q => .tuple [.int (q.2 : Nat), q.1] : List D) = B.zipIdx.map fun q => .tuple [.int (q.2 : Nat), eR n q.1] := by
  simp [eRs, List.zipIdx_map, Function.comp_def]
theorem first_odd_ev {n f : Nat} {B : List Nat} (hn : n ≤ 1000) (hk : B.length ≤ 1000) : F_first_odd [.vw 0 (.tuple (eRs n B)), .vw 0 (eR n f)] = ret (match odds n f B with | [] => .none | i :: _ => .int (i : Nat)) := by
  simp [F_first_odd, b_first_odd]
  rw [comp_if B.zipIdx (fun q => .tuple [.int (q.2 : Nat), eR n q.1]) (fun q => dot n q.1 f) (fun q => .int (q.2 : Nat))]
  · rw [zip_odds]
    cases odds n f B <;> simp [truD]
  · simp [items_eRs, zip_len]
  · intro q hq
    simp [are_even_ev (lim_of hn)]
    cases dot n q.1 f <;> rfl
  · rw [List.length_zipIdx]; exact lim_of hk
end K75
end

section
set_option linter.all false
set_option Elab.async false
set_option maxRecDepth 100000
namespace K75
open PySem hiding ret
open Ev
open Gf (sp lo rdc tstep Rd Eq2 Tri told fv dot par Inc S clr lstep Asc LInv)
theorem code_ok {most : Nat} (h1 : 1 ≤ most) (h2 : most ≤ 500) : Ok (F__law_code [.src, .vw 0 (.int (most : Nat))]) fun d => ∃ n B, 1 ≤ n ∧ n ≤ most ∧ Base n B ∧ d = eC n B := by
  simp [F__law_code, b__law_code]
  refine (pick_ok (by omega)).bnd fun d ⟨r, hr, hr2⟩ => ?_
  subst hr
  obtain ⟨n, hn⟩ : ∃ n : Nat, n = 1 + r := ⟨_, rfl⟩
  have hc : (1 : Int) + (r : Int) = (n : Int) := by omega
  simp [hc]
  have hc2 : (n : Int) + 1 = ((n + 1 : Nat) : Int) := by omega
  rw [hc2]
  refine (pick_ok (by omega)).bnd fun d ⟨r1, hr1, hr12⟩ => ?_
  subst hr1
  refine (pick_ok (by omega)).bnd fun d ⟨r3, hr3, hr32⟩ => ?_
  subst hr3
  simp [fdiv_pos (b := 2) _ (by decide) (by decide)]
  refine (of_ok (by simp) (by simp)).bnd fun d hd => ?_
  have : ∃ k : Nat, k ≤ n ∧ d = .int (k : Nat) := by
    simp at hd
    rcases hd with e | e | e | e | e
    · exact ⟨0, by omega, e⟩
    · exact ⟨n, by omega, e⟩
    · exact ⟨r1, by omega, e⟩
    · exact ⟨r3, by omega, e⟩
    · exact ⟨n / 2, by omega, by rw [e]; congr 1⟩
  obtain ⟨k, hk, e⟩ := this
  subst e
  refine (base_ok (n := n) (k := k) (by omega) (by omega)).bnd fun d ⟨B, hB, e⟩ => ?_
  subst e
  exact .ret ⟨n, by omega, by omega, B, hB, rfl⟩
theorem some_row_ok {n : Nat} {B : List Nat} (hn : n ≤ 1000) (hB : ∀ b ∈ B, b < 2 ^ n) : Ok (F__law_some_row [.src, .vw 0 (eC n B)]) fun d => ∃ v, v < 2 ^ n ∧ d = eR n v := by
  have hl := lim_of hn
  simp [F__law_some_row, b__law_some_row, zero_row hn]
  refine (forL_okJ (fun ss => ∃ v, v < 2 ^ n ∧ ss = [.src, .vw 0 (eC n B), .vw 0 (eR n v), .dead]) ?_ ⟨0, Nat.two_pow_pos n, rfl⟩).bnd fun o ⟨ss, e, v, hv, e2⟩ => ?_
  · intro x hx ss ⟨v, hv, e⟩
    subst e
    obtain ⟨b, hb, rfl⟩ := List.mem_map.1 hx
    simp
    refine (pick_ok (many := 2) (by decide)).bnd fun d ⟨r, hr, _⟩ => ?_
    subst hr
    by_cases z : r = 0
    · simp [z, law_sum_ev hl]
      exact .ret ⟨_, Gf.xlt hv (hB b hb), rfl⟩
    · simp [z]
      exact .ret ⟨v, hv, rfl⟩
  · subst e; subst e2
    simp
    exact .ret ⟨v, hv, rfl⟩
end K75
end

section
set_option linter.all false
set_option Elab.async false
set_option maxRecDepth 100000
namespace K75
open PySem hiding ret
open Ev
def oddL : List D := [.none, .int 0, .int 1, .int 2, .bool true, .int (-1), .int 9, .str "a", .str "in", .str "out", .str "row", .str "none", .tuple [], .tuple [.int 0], .tuple [.int 1, .int 0], .tuple [.int 0, .int 1], .list [], .dict [], .tuple [.tuple [.int 0, .int 1]]]
theorem oddL_ok : ∀ d ∈ oddL, Vl 4 2 9 d := by
  have h : (oddL.all fun d => decide (d.bulk ≤ 4) && decide (d.depth ≤ 2) && okV 9 d) = true := by decide +kernel
  intro d hd
  have := List.all_eq_true.1 h d hd
  simp at this
  exact ⟨this.1.1, this.1.2, this.2⟩
theorem eq_t0 (xs : List D) : eqD (.tuple xs) (.tuple []) = some (.bool xs.isEmpty) := by
  unfold eqD
  split
  · cases xs <;> simp [PyData.eqv, PyData.eqvAll]
  · rfl
theorem cut_sub (xs : List D) (lo hi : Option Int) : (cut xs lo hi).Sublist xs := (List.take_sublist _ _).trans (List.drop_sublist _ _)
theorem cut_take {xs : List D} {k : Nat} (h : k ≤ xs.length) : cut xs none (some (k : Int)) = xs.take k := by
  unfold cut sIx
  have : ¬ ((k : Int) < 0) := by omega
  simp [this, Nat.min_eq_left h]
theorem cut_drop {xs : List D} {k : Nat} (h : k < xs.length) : cut xs (some ((k : Int) + 1)) none = xs.drop (k + 1) := by
  unfold cut sIx
  have : ¬ ((k : Int) + 1 < 0) := by omega
  have h2 : ((k : Int) + 1).toNat = k + 1 := by omega
  simp [this, h2, Nat.min_eq_left (show k + 1 ≤ xs.length from h), List.take_of_length_le]
theorem neg_1 : negD (.int 1) = some (.int (-1)) := rfl
theorem lst_odd : (lstE (consA (cst .none) (consA (cst (.int 0)) (consA (cst (.int 1)) (consA (cst (.int 2)) (consA (cst (.bool true)) (consA (un negD (cst (.int 1))) (consA (cst (.int 9)) (consA (cst (.str "a")) (consA (cst (.str "in")) (consA (cst (.str "out")) (consA (cst (.str "row")) (consA (cst (.str "none")) (consA (tupE nilA) (consA (tupE (consA (cst (.int 0)) nilA)) (consA (tupE (consA (cst (.int 1)) (consA (cst (.int 0)) nilA))) (consA (tupE (consA (cst (.int 0)) (consA (cst (.int 1)) nilA))) (consA (lstE nilA) (consA (cst (.dict [])) (consA (tupE (consA (tupE (consA (cst (.int 0)) (consA (cst (.int 1)) nilA))) nilA)) nilA))))))))))))))))))))  = fun _ => ret (.list oddL) := by
  funext ss
  simp [neg_1, oddL]
def bentA : EvS := (seq (setS 3 (lstE (consA (callE F__law_of (argsS 0 (argsE 0 (rd 0 2) argsN))) nilA))) (seq (ifS (tst (un (isiD .tuple) (rd 0 1))) (seq (setS 3 (bin addD (rd 0 3) (lstE (consA (sli (rd 0 1) (part (cst (.int 1))) noPart) (consA (sli (rd 0 1) noPart (part (un negD (cst (.int 1))))) (consA (bin addD (rd 0 1) (sli (rd 0 1) noPart (part (cst (.int 1))))) (consA (un toLst (rd 0 1)) (consA (un revTD (rd 0 1)) (consA (bin addD (rd 0 1) (tupE (consA (cst (.int 0)) nilA))) nilA))))))))) pass) pass) (seq (retS (callE F__law_of (argsS 0 (argsE 0 (rd 0 3) argsN)))) pass)))
def bentN : EvS := (seq (retS (bin addD (bin addD (sli (rd 0 1) noPart (part (rd 0 4))) (tupE (consA (callE F__law_of (argsS 0 (argsE 0 (lstE (consA (bin subD (cst (.int 1)) (bin ixS (rd 0 1) (rd 0 4))) (consA (bin addD (bin ixS (rd 0 1) (rd 0 4)) (cst (.int 1))) (consA (bin subD (bin ixS (rd 0 1) (rd 0 4)) (cst (.int 1))) nilA)))) argsN))) nilA))) (sli (rd 0 1) (part (bin addD (rd 0 4) (cst (.int 1)))) noPart))) pass)
def bentX : EvS := (seq (retS (bin addD (sli (rd 0 1) noPart (part (rd 0 4))) (sli (rd 0 1) (part (bin addD (rd 0 4) (cst (.int 1)))) noPart))) pass)
def bentR (self : Fn) : EvS := (seq (retS (bin addD (bin addD (sli (rd 0 1) noPart (part (rd 0 4))) (tupE (consA (callE self (argsS 0 (argsE 0 (bin ixS (rd 0 1) (rd 0 4)) argsN))) nilA))) (sli (rd 0 1) (part (bin addD (rd 0 4) (cst (.int 1)))) noPart))) pass)
theorem bent_eq (self : Fn) : b__law_bent self = (seq (setS 2 (fun _ => ret (.list oddL))) (seq (ifS (orT (notT (tst (un (isiD .tuple) (rd 0 1)))) (orT (tst (bin eqD (rd 0 1) (tupE nilA))) (tst (bin eqD (callE F__law_pick (argsS 0 (argsE 0 (cst (.int 4)) argsN))) (cst (.int 0)))))) bentA pass) (seq (parS [4, 5] (wV (callE F__law_pick (argsS 0 (argsE 0 (un lenD (rd 0 1)) argsN))) (wV (callE F__law_pick (argsS 0 (argsE 0 (cst (.int 6)) argsN))) argsN))) (seq (ifS (andT (tst (bin ltD (rd 0 5) (cst (.int 2)))) (tst (callE F__law_number (argsE 0 (bin ixS (rd 0 1) (rd 0 4)) argsN)))) bentN pass) (seq (ifS (tst (bin eqD (rd 0 5) (cst (.int 2)))) bentX pass) (bentR self)))))) := by
  unfold b__law_bent
  rw [lst_odd]
  rfl
theorem bentA_ok {w k m : Nat} {d : D} (hd : Vl w k m d) (hw : w ≤ 1000) (hm : 9 ≤ m) :
    Ok (bentA [.src, .vw 0 d, .vw 0 (.list oddL), .dead, .dead, .dead]) fun o => ∃ r, o = .rt r ∧ Vl (2 * w + 4) (k + 2) (m + 1) r := by
  have up : ∀ r, Vl 4 2 9 r → Vl (2 * w + 4) (k + 2) (m + 1) r := fun r h => h.mono (by omega) (by omega) (by omega)
  have hodd : Ok (F__law_of [.src, .vw 0 (.list oddL)]) fun d => d ∈ oddL := of_ok (by simp [oddL]) (by simp [oddL])
  have fin : ∀ r, Vl 4 2 9 r → Ok (bnd (F__law_of [.src, .vw 0 (.list [r])]) fun d => ret (Out.rt d)) fun o => ∃ r, o = .rt r ∧ Vl (2 * w + 4) (k + 2) (m + 1) r := fun r hr => by
    refine (of_ok (by simp) (by simp)).bnd fun d hd => ?_
    rw [List.mem_singleton] at hd
    subst hd
    exact .ret ⟨_, rfl, up _ hr⟩
  cases d with
  | tuple xs =>
    have hl : VlL w (k - 1) m xs := by
      have hk : k - 1 + 1 = k ∨ k = 0 := by omega
      have := hd.d
      simp [PyData.depth] at this
      exact Vl.tup (by rw [show k - 1 + 1 = k by omega]; exact hd)
    have hk : k - 1 + 1 = k := by have := hd.d; simp [PyData.depth] at this; omega
    have hlen := hl.len
    have hcat : xs.length + (cut xs none (some 1)).length ≤ lim := by have := (cut_sub xs none (some 1)).length_le; unfold lim; omega
    have hsn : xs.length + 1 ≤ lim := by unfold lim; omega
    simp [bentA, isiD, isK, sli, part, noPart, slD, neg_1]
    refine hodd.bnd fun r hr => ?_
    have hr' := oddL_ok r hr
    simp [add_tup, hcat, hsn, revTD, add_lst]
    have hz : VlL 1 (k - 1) m [.int 0] := VlL.one ⟨by simp [PyData.bulk], by simp [PyData.depth], by unfold okV; simp⟩
    refine (of_ok (by simp) (by simp)).bnd fun d hd => ?_
    have fit : ∀ {ys w'}, VlL w' (k - 1) m ys → w' ≤ 2 * w + 4 → Vl (2 * w + 4) (k + 2) (m + 1) (.tuple ys) := fun h hw' => (h.tup).mono hw' (by omega) (by omega)
    refine .ret ⟨d, rfl, ?_⟩
    simp at hd
    rcases hd with e | e | e | e | e | e | e
    · subst e; exact up _ hr'
    · subst e; exact fit (hl.sub (cut_sub _ _ _)) (by omega)
    · subst e; exact fit (hl.sub (cut_sub _ _ _)) (by omega)
    · subst e; exact fit (hl.app (hl.sub (cut_sub _ _ _))) (by omega)
    · subst e; exact (hl.lst).mono (by omega) (by omega) (by omega)
    · subst e; exact fit hl.rev (by omega)
    · subst e; exact fit (hl.app hz) (by omega)
  | _ =>
    simp [bentA, isiD, isK]
    refine hodd.bnd fun r hr => ?_
    exact fin r (oddL_ok r hr)
theorem split_at {xs : List D} {r : Nat} (h : r < xs.length) : PyData.bulkAll xs = PyData.bulkAll (xs.take r) + (xs[r].bulk + 1) + PyData.bulkAll (xs.drop (r + 1)) := by
  have : xs = xs.take r ++ xs[r] :: xs.drop (r + 1) := by simp
  conv => lhs; rw [this]
  rw [bulk_app]
  simp only [PyData.bulkAll]
  omega
/-- one place made otherwise -/
theorem vl_put {w k m k' m' : Nat} {xs : List D} {r : Nat} (h : r < xs.length) (hl : VlL w k m xs) {y : D} (hy : Vl (2 * xs[r].bulk + 4) k' m' y) (hk : k ≤ k') (hm : m ≤ m') :
    Vl (2 * w + 4) (k' + 1) m' (.tuple (xs.take r ++ y :: xs.drop (r + 1))) := by
  have hb := split_at h
  have hw := hl.b
  refine VlL.tup ⟨?_, ?_, ?_⟩
  · rw [bulk_app]
    simp only [PyData.bulkAll]
    have := hy.b
    omega
  · intro x hx
    rcases List.mem_append.1 hx with q | q
    · exact Nat.le_trans (hl.d x (List.mem_of_mem_take q)) hk
    · rcases List.mem_cons.1 q with q | q
      · rw [q]; exact hy.d
      · exact Nat.le_trans (hl.d x (List.mem_of_mem_drop q)) hk
  · intro x hx
    rcases List.mem_append.1 hx with q | q
    · exact okV_mono hm x (hl.o x (List.mem_of_mem_take q))
    · rcases List.mem_cons.1 q with q | q
      · rw [q]; exact hy.o
      · exact okV_mono hm x (hl.o x (List.mem_of_mem_drop q))
theorem bent_ok : ∀ (f w k m : Nat) (d : D), Vl w k m d → k < f → w ≤ 1000 → 9 ≤ m → Ok (F__law_bent f [.src, .vw 0 d]) fun r => Vl (2 * w + 4) (k + 2) (m + 1) r
  | 0, _, _, _, _, _, h, _, _ => absurd h (Nat.not_lt_zero _)
  | f + 1, w, k, m, d, hd, hk, hw, hm => by
    have hA := bentA_ok hd hw hm
    unfold F__law_bent
    rw [bent_eq, ev_runF]
    by_cases ht : ∃ xs, d = .tuple xs
    · obtain ⟨xs, rfl⟩ := ht
      have hkk : k - 1 + 1 = k := by have := hd.d; simp [PyData.depth] at this; omega
      have hl : VlL w (k - 1) m xs := Vl.tup (by rw [hkk]; exact hd)
      have hlen := hl.len
      simp [isiD, isK, eq_t0]
      by_cases hx : xs = []
      · subst hx
        simp
        exact hA.bnd fun o ⟨r, e, hr⟩ => by subst e; exact .ret hr
      · simp [hx]
        refine (pick_ok (many := 4) (by decide)).bnd fun d ⟨z, hz, _⟩ => ?_
        subst hz
        simp
        by_cases hz0 : z = 0
        · simp [hz0]
          exact hA.bnd fun o ⟨r, e, hr⟩ => by subst e; exact .ret hr
        · simp [hz0]
          refine (pick_ok (many := xs.length) (by omega)).bnd fun d ⟨r, hr, hr2⟩ => ?_
          subst hr
          have hrl : r < xs.length := by have := List.length_pos_iff.2 hx; omega
          refine (pick_ok (many := 6) (by decide)).bnd fun d ⟨y, hy, _⟩ => ?_
          subst hy
          have hix : ixS (.tuple xs) (.int (r : Nat)) = some xs[r] := by rw [ix_tn hrl, List.getElem?_eq_getElem hrl]
          have hcat : (xs.take r).length + 1 ≤ lim := by rw [List.length_take]; unfold lim; omega
          have hcat2 : (xs.take r).length + 1 + (xs.drop (r + 1)).length ≤ lim := by rw [List.length_take, List.length_drop]; unfold lim; omega
          have hcat3 : (xs.take r).length + (xs.drop (r + 1)).length ≤ lim := by omega
          have hv : Vl xs[r].bulk (k - 1) m xs[r] := ⟨Nat.le_refl _, hl.d _ (List.getElem_mem _), hl.o _ (List.getElem_mem _)⟩
          have hfinX : Ok (bentX [.src, .vw 0 (.tuple xs), .vw 0 (.list oddL), .dead, .vw 0 (.int (r : Nat)), .vw 0 (.int (y : Nat))]) fun o => ∃ v, o = .rt v ∧ Vl (2 * w + 4) (k + 2) (m + 1) v := by
            simp [bentX, sli, part, noPart, slD, cut_take (Nat.le_of_lt hrl), cut_drop hrl]
            rw [add_tup hcat3]
            have hs : (xs.take r ++ xs.drop (r + 1)).Sublist xs := by rw [← List.eraseIdx_eq_take_drop_succ]; exact List.eraseIdx_sublist ..
            exact .ret ⟨_, rfl, (hl.sub hs).tup.mono (by omega) (by omega) (by omega)⟩
          have c1 : min r xs.length + 1 ≤ lim := by unfold lim; omega
          have c2 : min r xs.length + (xs.length - (r + 1) + 1) ≤ lim := by unfold lim; omega
          have c3 : min r xs.length + 1 + (xs.length - (r + 1)) ≤ lim := by unfold lim; omega
          have put : ∀ y, Vl (2 * xs[r].bulk + 4) (k - 1 + 2) (m + 1) y → Vl (2 * w + 4) (k + 2) (m + 1) (.tuple (xs.take r ++ y :: xs.drop (r + 1))) := fun y hy =>
            (vl_put hrl hl hy (by omega) (by omega)).mono (by omega) (by omega) (by omega)
          have hfinR : Ok (bentR (F__law_bent f) [.src, .vw 0 (.tuple xs), .vw 0 (.list oddL), .dead, .vw 0 (.int (r : Nat)), .vw 0 (.int (y : Nat))]) fun o => ∃ v, o = .rt v ∧ Vl (2 * w + 4) (k + 2) (m + 1) v := by
            simp [bentR, sli, part, noPart, slD, cut_take (Nat.le_of_lt hrl), cut_drop hrl, hix]
            refine (bent_ok f _ _ m _ hv (by omega) (by have := split_at hrl; have := hl.b; omega) hm).bnd fun y hy => ?_
            have := put y hy
            simp [add_tup, c1, c2, c3]
            exact .ret ⟨_, rfl, this⟩
          have hfinN : isNum xs[r] = true → Ok (bentN [.src, .vw 0 (.tuple xs), .vw 0 (.list oddL), .dead, .vw 0 (.int (r : Nat)), .vw 0 (.int (y : Nat))]) fun o => ∃ v, o = .rt v ∧ Vl (2 * w + 4) (k + 2) (m + 1) v := by
            intro hnum
            generalize hq : xs[r] = q at *
            cases q <;> try (cases hnum; done)
            rename_i i
            have hi : i.natAbs ≤ m := by have := hv.o; unfold okV at this; exact of_decide_eq_true this
            simp [bentN, sli, part, noPart, slD, cut_take (Nat.le_of_lt hrl), cut_drop hrl, hix]
            refine (of_ok (by simp) (by simp)).bnd fun y hy => ?_
            have hy2 : Vl (2 * (PyData.int i).bulk + 4) (k - 1 + 2) (m + 1) y := by
              have : ∃ j : Int, y = .int j ∧ j.natAbs ≤ m + 1 := by
                simp at hy
                rcases hy with e | e | e
                · exact ⟨_, e, by omega⟩
                · exact ⟨_, e, by omega⟩
                · exact ⟨_, e, by omega⟩
              obtain ⟨j, e, hj⟩ := this
              subst e
              exact ⟨by simp [PyData.bulk], by simp [PyData.depth], by unfold okV; exact decide_eq_true hj⟩
            have := put y hy2
            simp [add_tup, c1, c2, c3]
            exact .ret ⟨_, rfl, this⟩
          simp [hix, law_number_ev]
          by_cases hy2 : (y : Int) < 2
          · simp [hy2]
            by_cases hnum : isNum xs[r] = true
            · simp [hnum]
              refine (hfinN hnum).bnd fun o ⟨v, e, hv⟩ => ?_
              subst e
              exact .ret hv
            · have hy3 : ¬ (y : Int) = 2 := by omega
              simp [hnum, hy3]
              refine hfinR.bnd fun o ⟨v, e, hv⟩ => ?_
              subst e
              exact .ret hv
          · simp [hy2]
            by_cases hy3 : (y : Int) = 2
            · simp [hy3]
              refine hfinX.bnd fun o ⟨v, e, hv⟩ => ?_
              subst e
              exact .ret hv
            · simp [hy3]
              refine hfinR.bnd fun o ⟨v, e, hv⟩ => ?_
              subst e
              exact .ret hv
    · have hnt : isiD .tuple d = some (.bool false) := by
        cases d with
        | tuple xs => exact absurd ⟨xs, rfl⟩ ht
        | _ => rfl
      simp [hnt]
      exact hA.bnd fun o ⟨r, e, hr⟩ => by subst e; exact .ret hr
end K75
end

section
set_option linter.all false
set_option Elab.async false
set_option maxRecDepth 100000
namespace K75
open PySem hiding ret
open Ev
open Gf (sp lo rdc tstep Rd Eq2 Tri told fv dot par Inc S clr lstep Asc LInv av pv)
def eN (ps : List Nat) : D := .tuple (ps.map fun p => .int (p : Nat))
structure Plc (n : Nat) (ps : List Nat) : Prop where
  nd : ps.Nodup
  lt : ∀ p ∈ ps, p < n
theorem Plc.len {n : Nat} {ps : List Nat} (h : Plc n ps) : ps.length ≤ n := by
  have := Gf.sub_len h.nd (C := List.range n) fun a ha => List.mem_range.2 (h.lt a ha)
  simpa using this
theorem it_eN (ps : List Nat) : items (eN ps) = some (ps.map fun p => .int (p : Nat)) := rfl
theorem av_map (v : Nat) (ps : List Nat) : (.tuple (ps.map (eB v)) : D) = eR ps.length (av v ps) := by
  unfold eR
  congr 1
  apply List.ext_getElem
  · simp
  · intro i h1 h2
    have hi : i < ps.length := by simpa using h1
    simp [eB, bit, Gf.av_bit hi]
theorem marks_at_ev {n v : Nat} {ps : List Nat} (hn : n ≤ 1000) (h : Plc n ps) : F_marks_at [.vw 0 (eR n v), .vw 0 (eN ps)] = ret (eR ps.length (av v ps)) := by
  have hl := h.len
  simp [F_marks_at, b_marks_at]
  rw [comp_map ps (fun p => .int (p : Nat)) (eB v)]
  · simp [av_map]
  · simp [it_eN]
  · intro p hp
    simp [eR_ix (h.lt p hp)]
  · unfold lim; omega
theorem law_at_ev {n v : Nat} {ps : List Nat} (hn : n ≤ 1000) (h : Plc n ps) : F__law_at [.vw 0 (eR n v), .vw 0 (eN ps)] = ret (eR ps.length (av v ps)) := by
  have hl := h.len
  simp [F__law_at, b__law_at]
  rw [comp_map ps (fun p => .int (p : Nat)) (eB v)]
  · simp [av_map]
  · simp [it_eN]
  · intro p hp
    simp [eR_ix (h.lt p hp)]
  · unfold lim; omega
abbrev at' (ps : List Nat) (rows : List Nat) : List Nat := rows.map (av · ps)
theorem at_lt (ps rows : List Nat) : ∀ r ∈ at' ps rows, r < 2 ^ ps.length := by
  intro r hr
  obtain ⟨v, _, e⟩ := List.mem_map.1 hr
  rw [← e]; exact Gf.av_lt v ps
theorem len_eN (ps : List Nat) : lenD (eN ps) = some (.int (ps.length : Nat)) := by
  unfold eN; rw [len_tup, List.length_map]
theorem seen_at_ev {n : Nat} {ps rows : List Nat} (hn : n ≤ 1000) (hk : rows.length ≤ 1000) (h : Plc n ps) : ∃ B, Rd ps.length B ∧ Eq2 B (at' ps rows) ∧ F_seen_at [.vw 0 (eC n rows), .vw 0 (eN ps)] = ret (eC ps.length B) := by
  have hl := h.len
  obtain ⟨B, hR, hE, e⟩ := told_rows_ev' (d := .list (eRs ps.length (at' ps rows))) (n := ps.length) (rows := at' ps rows) rfl (by omega) (at_lt ps rows)
  refine ⟨B, hR, hE, ?_⟩
  simp [F_seen_at, b_seen_at, len_eN]
  rw [comp_map rows (eR n) (fun v => eR ps.length (av v ps))]
  · rw [show rows.map (fun v => eR ps.length (av v ps)) = eRs ps.length (at' ps rows) by simp [eRs, at']]
    simp only [bnd_ret, e]
  · simp [items_eRs]; rfl
  · intro v hv
    simp [marks_at_ev hn h]
  · exact lim_of hk
theorem law_seen_ev {n : Nat} {ps rows : List Nat} (hn : n ≤ 1000) (hk : rows.length ≤ 1000) (h : Plc n ps) : F__law_seen [.vw 0 (eC n rows), .vw 0 (eN ps)] = ret (eC ps.length (told ps.length (at' ps rows))) := by
  have hl := h.len
  have e := law_told_ev (k := 1) (n := ps.length) (rows := at' ps rows) (by omega) (by simp [at']; omega) (at_lt ps rows) (.inl rfl) (Nat.le_refl _)
  simp [F__law_seen, b__law_seen, len_eN]
  rw [comp_map rows (eR n) (fun v => eR ps.length (av v ps))]
  · rw [show rows.map (fun v => eR ps.length (av v ps)) = eRs ps.length (at' ps rows) by simp [eRs, at']]
    simp only [bnd_ret, e]
  · simp [items_eRs]; rfl
  · intro v hv
    simp [law_at_ev hn h]
  · exact lim_of hk
theorem tru_eN (ps : List Nat) : truD (eN ps) = some (!ps.isEmpty) := by
  unfold eN truD; simp
theorem rank_at_ev {n : Nat} {ps rows : List Nat} (hn : n ≤ 1000) (hk : rows.length ≤ 1000) (h : Plc n ps) : F_rank_at [.vw 0 (eC n rows), .vw 0 (eN ps)] = ret (.int ((if ps.isEmpty then 0 else (told ps.length (at' ps rows)).length : Nat) : Int)) := by
  obtain ⟨B, hR, hE, e⟩ := seen_at_ev hn hk h (rows := rows)
  obtain ⟨hR2, _, hE2⟩ := Gf.told_spec (at_lt ps rows)
  have hlen := Gf.Rd.len hR hR2 (hE.trans hE2.symm)
  simp [F_rank_at, b_rank_at, tru_eN]
  cases ps with
  | nil => simp
  | cons p ps => simp at e hlen ⊢; simp [e, eRs_len, hlen]
theorem idx_eN {p : Nat} {ps : List Nat} (h : p ∈ ps) : idxD (eN ps) (.int (p : Nat)) = some (.int (ps.idxOf p : Nat)) := by
  unfold eN idxD
  dsimp only
  rw [asInts_mapf]
  have h1 : (p : Int) ∈ ps.map fun p : Nat => (p : Int) := List.mem_map.2 ⟨p, h, rfl⟩
  have h2 : (ps.map fun p : Nat => (p : Int)).idxOf (p : Int) = ps.idxOf p := by
    clear h h1
    induction ps with
    | nil => rfl
    | cons q ps ih =>
      rw [List.map_cons, List.idxOf_cons, List.idxOf_cons, ih, icastb]
  simp only [Option.bind_some]
  rw [if_pos h1, h2]
theorem in_eN (p : Nat) (ps : List Nat) : inS (.int (p : Nat)) (eN ps) = some (.bool (ps.contains p)) := by
  unfold eN
  rw [in_ti]
  congr 2
  induction ps with
  | nil => rfl
  | cons q ps ih => rw [List.any_cons, List.contains_cons, ih, icastb]; congr 1; rw [Bool.eq_iff_iff]; simp only [beq_iff_eq]; exact eq_comm
theorem nin_eN (p : Nat) (ps : List Nat) : ninS (.int (p : Nat)) (eN ps) = some (.bool (!ps.contains p)) := by
  unfold eN
  rw [nin_ti]
  congr 2
  induction ps with
  | nil => rfl
  | cons q ps ih =>
    rw [List.any_cons, List.contains_cons, icastb, Bool.not_or, Bool.not_or, ih]
    congr 2; rw [Bool.eq_iff_iff]; simp only [beq_iff_eq]; exact eq_comm
theorem pv_tuple {n f : Nat} {ps : List Nat} : (.tuple ((List.range n).map (eB (pv n ps f))) : D) = eR n (pv n ps f) := rfl
theorem tru_tup (l : List D) : truD (.tuple l) = some (!l.isEmpty) := rfl
/-- what marks_paper tells where there are places -/
inductive Pap (n mk : Nat) (ps rows : List Nat) : Bool → D → Prop
  | yes (l : List Int) : Inc rows.length l → av (S rows l) ps = mk → Pap n mk ps rows true (.tuple [.str "row", eR n (S rows l)])
  | no (f : Nat) : f < 2 ^ ps.length → dot ps.length mk f = true → (∀ b ∈ rows, dot ps.length (av b ps) f = false) → Pap n mk ps rows false (.tuple [.str "none", eR n (pv n ps f)])
theorem paper_nil {n mk : Nat} {rows : List Nat} (hn : n ≤ 1000) : F_marks_paper [.vw 0 (eC n rows), .vw 0 (eN []), .vw 0 (eR 0 mk)] = ret (.tuple [.str "row", eR n 0]) := by
  simp [F_marks_paper, b_marks_paper, tru_eN, zero_row hn]
theorem paper_ev {n mk : Nat} {ps rows : List Nat} (hn : n ≤ 1000) (hk : rows.length ≤ 1000) (h : Plc n ps) (h0 : ps ≠ []) (hm : mk < 2 ^ ps.length) :
    ∃ b T, (b = true ↔ sp (at' ps rows) mk) ∧ F_marks_paper [.vw 0 (eC n rows), .vw 0 (eN ps), .vw 0 (eR ps.length mk)] = ret T ∧ Pap n mk ps rows b T := by
  have hlp := h.len
  have hl := lim_of hn
  have he : ps.isEmpty = false := by cases ps with | nil => exact absurd rfl h0 | cons => rfl
  have hmap : rows.map (fun v => eR ps.length (av v ps)) = eRs ps.length (at' ps rows) := by simp [eRs, at']
  have hcomp : ∀ x3 x4 x5 x6 x7 x8, comp [5] (seqL (bin ixS (rd 0 0) (cst (.int 1)))) (tName 0 5) yes (callE F_marks_at (argsE 0 (rd 0 5) (argsE 0 (rd 0 1) argsN))) [.vw 0 (eC n rows), .vw 0 (eN ps), .vw 0 (eR ps.length mk), x3, x4, x5, x6, x7, x8] = ret (eRs ps.length (at' ps rows)) := by
    intro x3 x4 x5 x6 x7 x8
    rw [comp_map rows (eR n) (fun v => eR ps.length (av v ps)), hmap]
    · simp [items_eRs]; rfl
    · intro v hv
      simp [marks_at_ev hn h]
    · exact lim_of hk
  rcases lot_ev (d := .list (eRs ps.length (at' ps rows))) (n := ps.length) (v := mk) (rows := at' ps rows) rfl (by omega) (by simp [at']; omega) (at_lt ps rows) hm with ⟨h1, l, h2, h3, e⟩ | ⟨h1, e⟩
  · have hl2 : Inc rows.length l := by simpa [at'] using h2
    have hS : av (S rows l) ps = mk := by rw [← Gf.av_S]; exact h3
    have hlen := hl2.len
    refine ⟨true, _, ⟨fun _ => h1, fun _ => rfl⟩, ?_, Pap.yes l hl2 hS⟩
    have h4 := sum_of_rows_ev hn (l.map fun i => rows.getD i.toNat 0)
    rw [List.foldl_map, Gf.S_fold hl2, Nat.zero_xor] at h4
    simp [F_marks_paper, b_marks_paper, tru_eN, he]
    rw [hcomp]
    simp [e, eL]
    rw [comp_map l (fun i => .int i) (fun i => eR n (rows.getD i.toNat 0))]
    · rw [show l.map (fun i => eR n (rows.getD i.toNat 0)) = eRs n (l.map fun i => rows.getD i.toNat 0) by simp [eRs]]
      simp only [bnd_ret, h4]
    · simp
    · intro i hi
      have := hl2.2 i hi
      obtain ⟨j, rfl⟩ : ∃ j : Nat, i = (j : Int) := ⟨i.toNat, by omega⟩
      have hj : j < rows.length := by omega
      simp [ix_eRs hj, hj]
    · unfold lim; omega
  · obtain ⟨B, hR, hE, es⟩ := seen_at_ev hn hk h (rows := rows)
    obtain ⟨C, hRC, hEC, ef⟩ := free_base_ev (n := ps.length) (rows := B) (by omega) hR.lt
    have hEE : Eq2 C (at' ps rows) := hEC.trans hE
    have hex : ¬ ∀ f ∈ frees ps.length C, dot ps.length mk f = false := fun q => h1 ((hEE mk).1 ((frees_iff hRC hm).1 q))
    have hne : (frees ps.length C).filter (fun f => dot ps.length f mk) ≠ [] := by
      intro q
      apply hex
      intro f hf
      have := List.filter_eq_nil_iff.1 q f hf
      rw [Gf.dot_comm]; simpa using this
    obtain ⟨f, fs, hfs⟩ := List.exists_cons_of_ne_nil hne
    have hf : f ∈ (frees ps.length C).filter (fun f => dot ps.length f mk) := by rw [hfs]; simp
    obtain ⟨hf1, hf2⟩ := List.mem_filter.1 hf
    have hflt := free_lt hRC f hf1
    refine ⟨false, _, ⟨(fun q => by cases q), fun q => absurd q h1⟩, ?_, Pap.no f hflt (by rw [Gf.dot_comm]; exact hf2) fun b hb => ?_⟩
    · simp [F_marks_paper, b_marks_paper, tru_eN, he]
      rw [hcomp]
      simp [e]
      rw [comp_if (frees ps.length C) (eR ps.length) (fun f => dot ps.length f mk) (eR ps.length)]
      · rw [hfs]
        simp
        rw [comp_map (List.range n) (fun i => .int (i : Nat)) (eB (pv n ps f))]
        · simp [pv_tuple]
        · simp [rngM_nat hl]
        · intro p hp
          have hpn := List.mem_range.1 hp
          have hb := Gf.pv_bit (ps := ps) (f := f) hpn
          by_cases hc : p ∈ ps
          · have hi : ps.idxOf p < ps.length := List.idxOf_lt_length_of_mem hc
            simp [in_eN, hc, idx_eN hc, eR_ix hi]
            unfold eB bit
            rw [hb]; simp [hc]
          · simp [in_eN, hc]
            unfold eB bit
            rw [hb]; simp [hc]
        · simpa using hl
      · simp [es, ef]; rfl
      · intro g hg
        simp [are_even_ev (lim_of (show ps.length ≤ 1000 by omega))]
        cases dot ps.length g mk <;> rfl
      · exact Nat.le_trans frees_len (lim_of (by omega))
    · have hb' : av b ps ∈ at' ps rows := List.mem_map.2 ⟨b, hb, rfl⟩
      exact (frees_iff hRC (Gf.av_lt b ps)).2 ((hEE _).2 (Gf.spm hb')) f hf1
end K75
end

section
set_option linter.all false
set_option Elab.async false
set_option maxRecDepth 100000
namespace K75
open PySem hiding ret
open Ev
open Gf (sp lo rdc tstep Rd Eq2 Tri told fv dot par Inc S clr lstep Asc LInv av pv)
theorem str_row : PyData.canLay0 (.str "row") = true := by decide +kernel
theorem str_non : PyData.canLay0 (.str "none") = true := by decide +kernel
theorem row_non : (("row" : Str) == "none") = false := by decide +kernel
theorem non_row : (("none" : Str) == "row") = false := by decide +kernel
theorem shaped_2 {a b : Str} (ha : PyData.canLay0 (.str a) = true) (hb : PyData.canLay0 (.str b) = true) : SeqAt.shaped (.tuple [.str a, .str b]) = true := by
  simp [SeqAt.shaped, PyData.depth, PyData.depthAll, PyData.canLay0, PyData.canLayAll0] at ha hb ⊢; exact ⟨ha, hb⟩
theorem in_str2 {s a b : Str} (hs : PyData.canLay0 (.str s) = true) (ha : PyData.canLay0 (.str a) = true) (hb : PyData.canLay0 (.str b) = true) : inS (.str s) (.tuple [.str a, .str b]) = some (.bool (a == s || b == s)) := by
  unfold inS
  dsimp only
  rw [shaped_str hs, shaped_2 ha hb]; simp [PyData.eqv]
theorem nin_str2 {s a b : Str} (hs : PyData.canLay0 (.str s) = true) (ha : PyData.canLay0 (.str a) = true) (hb : PyData.canLay0 (.str b) = true) : ninS (.str s) (.tuple [.str a, .str b]) = some (.bool (!(a == s || b == s))) := by
  unfold ninS
  dsimp only
  rw [shaped_str hs, shaped_2 ha hb]; simp [PyData.eqv]
theorem worded_no {a b : Str} {d : D} (h : ∀ s x, d ≠ .tuple [.str s, x]) : F_is_worded [.vw 0 d, .vw 0 (.tuple [.str a, .str b])] = ret (.bool false) := by
  cases d with
  | tuple xs =>
    match xs, h with
    | [], _ => simp [F_is_worded, b_is_worded, isiD, isK]
    | [a], _ => simp [F_is_worded, b_is_worded, isiD, isK]
    | [a, b], h =>
      cases a with
      | str s => exact absurd rfl (h s b)
      | _ => simp [F_is_worded, b_is_worded, isiD, isK]
    | a :: b :: c :: l, _ =>
      have e : ¬ ((l.length : Int) + 1 + 1 + 1 = 2) := by omega
      simp [F_is_worded, b_is_worded, isiD, isK, e]
  | _ => simp [F_is_worded, b_is_worded, isiD, isK]
theorem worded_yes {a b s : Str} {x : D} (ha : PyData.canLay0 (.str a) = true) (hb : PyData.canLay0 (.str b) = true) (hs : PyData.canLay0 (.str s) = true) : F_is_worded [.vw 0 (.tuple [.str s, x]), .vw 0 (.tuple [.str a, .str b])] = ret (.bool (a == s || b == s)) := by
  simp [F_is_worded, b_is_worded, isiD, isK, in_str2 hs ha hb]
theorem form_no {n mk : Nat} {B ps : List Nat} {d : D} (h : ∀ s x, d ≠ .tuple [.str s, x]) :
    F_judge_marks [.vw 0 (eC n B), .vw 0 (eN ps), .vw 0 (eR ps.length mk), .vw 0 d] = ret (.tuple [.str "form"]) ∧ F__law_fault [.vw 0 (eC n B), .vw 0 (eN ps), .vw 0 (eR ps.length mk), .vw 0 d] = ret (.tuple [.str "form"]) := by
  constructor
  · simp [F_judge_marks, b_judge_marks, worded_no h]
  · cases d with
    | tuple xs =>
      match xs, h with
      | [], _ => simp [F__law_fault, b__law_fault, isiD, isK]
      | [a], _ => simp [F__law_fault, b__law_fault, isiD, isK]
      | [a, b], h =>
        cases a with
        | str s => exact absurd rfl (h s b)
        | _ => simp [F__law_fault, b__law_fault, isiD, isK]
      | a :: b :: c :: l, _ =>
        have e : ¬ ((l.length : Int) + 1 + 1 + 1 = 2) := by omega
        simp [F__law_fault, b__law_fault, isiD, isK, e]
    | _ => simp [F__law_fault, b__law_fault, isiD, isK]
theorem form_else {n mk : Nat} {B ps : List Nat} {s : Str} {x : D} (hx : ∀ xs, x = .tuple xs → xs.length ≤ lim) (hs : PyData.canLay0 (.str s) = true) (h : ((("row" : Str) == s || ("none" : Str) == s) && isRowB n x) = false) :
    F_judge_marks [.vw 0 (eC n B), .vw 0 (eN ps), .vw 0 (eR ps.length mk), .vw 0 (.tuple [.str s, x])] = ret (.tuple [.str "form"]) ∧ F__law_fault [.vw 0 (eC n B), .vw 0 (eN ps), .vw 0 (eR ps.length mk), .vw 0 (.tuple [.str s, x])] = ret (.tuple [.str "form"]) := by
  have h1 := worded_yes (x := x) str_row str_non hs
  have h2 := is_row_ev (n := n) x hx
  have h3 := law_is_row_ev (n := n) x hx
  have h4 := nin_str2 hs str_row str_non
  generalize (("row" : Str) == s || ("none" : Str) == s) = w at *
  generalize isRowB n x = r at *
  constructor
  · cases w <;> cases r <;> simp [F_judge_marks, b_judge_marks, h1, h2] at h ⊢
  · cases w <;> cases r <;> simp [F__law_fault, b__law_fault, isiD, isK, h3, h4] at h ⊢
/-- the places where a row has not the marks -/
def wrongR (ps : List Nat) (f mk : Nat) : List Nat := ((List.range ps.length).filter fun j => f.testBit (ps.getD j 0) != mk.testBit j).map fun j => ps.getD j 0
def wrongN (n : Nat) (ps : List Nat) (f : Nat) : List Nat := (List.range n).filter fun p => !ps.contains p && f.testBit p
theorem eB_ne2 (a b i j : Nat) : neD (eB a i) (eB b j) = some (.bool (a.testBit i != b.testBit j)) := by
  unfold eB bit; rw [ne_int]; cases a.testBit i <;> cases b.testBit j <;> rfl
theorem getD_mem {ps : List Nat} {j : Nat} (h : j < ps.length) : ps.getD j 0 ∈ ps := by
  have : ps.getD j 0 = ps[j] := by simp [h]
  rw [this]; exact List.getElem_mem _
theorem zip_pm (ps : List Nat) (mk : Nat) : (ps.map fun p => .int (p : Nat) : List D).zip ((List.range ps.length).map (eB mk)) = (List.range ps.length).map fun j => (.int (ps.getD j 0 : Nat), eB mk j) := by
  apply List.ext_getElem
  · simp
  · intro i h1 h2
    have hi : i < ps.length := by simpa using h2
    simp [hi]
theorem judge_row {n mk f : Nat} {B ps : List Nat} (hn : n ≤ 1000) (hk : B.length ≤ 1000) (hB : ∀ b ∈ B, b < 2 ^ n) (h : Plc n ps) (hf : f < 2 ^ n) (hr : isRowB n (eR n f) = true) {b : Bool} (hb : F_has_row [.vw 0 (eC n B), .vw 0 (eR n f)] = ret (.bool b)) :
    F_judge_marks [.vw 0 (eC n B), .vw 0 (eN ps), .vw 0 (eR ps.length mk), .vw 0 (.tuple [.str "row", eR n f])] = ret (firstOf "place" (if b then .none else .tuple [.str "out"]) (wrongR ps f mk)) := by
  have hlp := h.len
  have hl := lim_of hn
  have h1 := worded_yes (x := eR n f) str_row str_non str_row
  rw [beq_self_eq_true, Bool.true_or] at h1
  have h2 := is_row_ev (n := n) (eR n f) (fun xs e => by cases e; simpa using hl)
  rw [hr] at h2
  simp [F_judge_marks, b_judge_marks, h1, h2, eq_same str_row]
  rw [comp_if (List.range ps.length) (fun j => .tuple [.int (ps.getD j 0 : Nat), eB mk j]) (fun j => f.testBit (ps.getD j 0) != mk.testBit j) (fun j => .int (ps.getD j 0 : Nat))]
  · have e : ((List.range ps.length).filter fun j => f.testBit (ps.getD j 0) != mk.testBit j).map (fun j => .int (ps.getD j 0 : Nat) : Nat → D) = (wrongR ps f mk).map fun i => .int (i : Nat) := by
      unfold wrongR; rw [List.map_map]; rfl
    rw [e]
    generalize wrongR ps f mk = w
    cases w with
    | nil => simp [truD]; rw [hb]; cases b <;> simp [firstOf]
    | cons i l => simp [truD, firstOf]
  · simp [it_eN, it_eR]
    have := zip_pm ps mk
    simp at this
    rw [this]; simp [Function.comp_def]
  · intro j hj
    have hjl := List.mem_range.1 hj
    have hm := h.lt _ (getD_mem hjl)
    generalize ps.getD j 0 = q at *
    simp [eR_ix hm, eB_ne2]
    cases f.testBit q <;> cases mk.testBit j <;> rfl
  · simp; unfold lim; omega
theorem fault_row {n mk f : Nat} {B ps : List Nat} (hn : n ≤ 1000) (hk : B.length ≤ 1000) (h : Plc n ps) (hr : isRowB n (eR n f) = true) {b : Bool} (hb : F__law_has [.vw 0 (eC n B), .vw 0 (eR n f)] = ret (.bool b)) :
    F__law_fault [.vw 0 (eC n B), .vw 0 (eN ps), .vw 0 (eR ps.length mk), .vw 0 (.tuple [.str "row", eR n f])] = ret (firstOf "place" (if b then .none else .tuple [.str "out"]) (wrongR ps f mk)) := by
  have hlp := h.len
  have hl := lim_of hn
  have h3 := law_is_row_ev (n := n) (eR n f) (fun xs e => by cases e; simpa using hl)
  rw [hr] at h3
  have h4 := nin_str2 str_row str_row str_non
  rw [beq_self_eq_true, Bool.true_or] at h4
  simp [F__law_fault, b__law_fault, isiD, isK, h3, h4, eq_same str_row]
  rw [comp_if (List.range ps.length) (fun j => .tuple [.int (ps.getD j 0 : Nat), eB mk j]) (fun j => f.testBit (ps.getD j 0) != mk.testBit j) (fun j => .int (ps.getD j 0 : Nat))]
  · have e : ((List.range ps.length).filter fun j => f.testBit (ps.getD j 0) != mk.testBit j).map (fun j => .int (ps.getD j 0 : Nat) : Nat → D) = (wrongR ps f mk).map fun i => .int (i : Nat) := by
      unfold wrongR; rw [List.map_map]; rfl
    rw [e]
    have hne := ne_li0 (fun i : Nat => (i : Int)) (wrongR ps f mk)
    generalize wrongR ps f mk = w at *
    simp [hne]
    cases w with
    | nil => simp [hb]; cases b <;> simp [firstOf]
    | cons i l => simp [firstOf]
  · simp [it_eN, it_eR]
    have := zip_pm ps mk
    simp at this
    rw [this]; simp [Function.comp_def]
  · intro j hj
    have hjl := List.mem_range.1 hj
    have hm := h.lt _ (getD_mem hjl)
    generalize ps.getD j 0 = q at *
    simp [eR_ix hm, eB_ne2]
    cases f.testBit q <;> cases mk.testBit j <;> rfl
  · simp; unfold lim; omega
/-- what is told of a row as the paper that there is none -/
def noneR (n mk : Nat) (B ps : List Nat) (f : Nat) : D := firstOf "place" (firstOf "base" (if dot ps.length (av f ps) mk then .none else .tuple [.str "even"]) (odds n f B)) (wrongN n ps f)
theorem judge_none {n mk f : Nat} {B ps : List Nat} (hn : n ≤ 1000) (hk : B.length ≤ 1000) (h : Plc n ps) (hr : isRowB n (eR n f) = true) :
    F_judge_marks [.vw 0 (eC n B), .vw 0 (eN ps), .vw 0 (eR ps.length mk), .vw 0 (.tuple [.str "none", eR n f])] = ret (noneR n mk B ps f) := by
  have hlp := h.len
  have hl := lim_of hn
  have hlm : ps.length ≤ lim := lim_of (by omega)
  have h1 := worded_yes (x := eR n f) str_row str_non str_non
  rw [row_non] at h1
  rw [beq_self_eq_true] at h1
  have h2 := is_row_ev (n := n) (eR n f) (fun xs e => by cases e; simpa using hl)
  rw [hr] at h2
  have h5 := eq_str str_non str_row
  rw [non_row] at h5
  simp [F_judge_marks, b_judge_marks, h1, h2, h5]
  rw [comp_if (List.range n) (fun i => .int (i : Nat)) (fun p => !ps.contains p && f.testBit p) (fun i => .int (i : Nat))]
  · unfold noneR
    rw [show ((List.range n).filter fun p => !ps.contains p && f.testBit p) = wrongN n ps f from rfl]
    generalize wrongN n ps f = w
    cases w with
    | nil =>
      simp [truD, first_odd_ev hn hk]
      cases odds n f B with
      | nil => simp [marks_at_ev hn h, are_even_ev hlm]; cases dot ps.length (av f ps) mk <;> simp [firstOf]
      | cons i l => simp [firstOf]
    | cons i l => simp [truD, firstOf]
  · simp [rngM_nat hl]
  · intro p hp
    have hpn := List.mem_range.1 hp
    simp [nin_eN]
    by_cases c : p ∈ ps
    · simp [c]
    · simp [c, eR_ix hpn]; cases f.testBit p <;> rfl
  · simpa using hl
theorem fault_none {n mk f : Nat} {B ps : List Nat} (hn : n ≤ 1000) (hk : B.length ≤ 1000) (h : Plc n ps) (hr : isRowB n (eR n f) = true) :
    F__law_fault [.vw 0 (eC n B), .vw 0 (eN ps), .vw 0 (eR ps.length mk), .vw 0 (.tuple [.str "none", eR n f])] = ret (noneR n mk B ps f) := by
  have hlp := h.len
  have hl := lim_of hn
  have hlm : ps.length ≤ lim := lim_of (by omega)
  have h3 := law_is_row_ev (n := n) (eR n f) (fun xs e => by cases e; simpa using hl)
  rw [hr] at h3
  have h4 := nin_str2 str_non str_row str_non
  rw [row_non, beq_self_eq_true] at h4
  have h5 := eq_str str_non str_row
  rw [non_row] at h5
  simp [F__law_fault, b__law_fault, isiD, isK, h3, h4, h5]
  rw [comp_if (List.range n) (fun i => .int (i : Nat)) (fun p => !ps.contains p && f.testBit p) (fun i => .int (i : Nat))]
  · unfold noneR
    rw [show ((List.range n).filter fun p => !ps.contains p && f.testBit p) = wrongN n ps f from rfl]
    have hne := ne_li0 (fun i : Nat => (i : Int)) (wrongN n ps f)
    generalize wrongN n ps f = w at *
    simp [hne]
    cases w with
    | nil =>
      simp
      rw [comp_if B.zipIdx (fun q => .tuple [.int (q.2 : Nat), eR n q.1]) (fun q => dot n q.1 f) (fun q => .int (q.2 : Nat))]
      · rw [zip_odds]
        have hne := ne_li0 (fun i : Nat => (i : Int)) (odds n f B)
        generalize odds n f B = fl at *
        simp [hne]
        cases fl with
        | nil =>
          simp
          rw [comp_map (List.range ps.length) (fun j => .tuple [.int (ps.getD j 0 : Nat), eB mk j]) (fun j => .int (bit (av f ps) j * bit mk j))]
          · have : asInts ((List.range ps.length).map fun j => .int (bit (av f ps) j * bit mk j)) = _ := asInts_mapf (fun j => bit (av f ps) j * bit mk j) (List.range ps.length)
            simp [sumD, listed, this, mod_pos (b := 2) _ (by decide), sum_par]
            cases dot ps.length (av f ps) mk <;> simp [firstOf]
          · simp [it_eN, it_eR]
            have := zip_pm ps mk
            simp at this
            rw [this]; simp [Function.comp_def]
          · intro j hj
            have hjl := List.mem_range.1 hj
            have hm := h.lt _ (getD_mem hjl)
            have hb := Gf.av_bit (v := f) hjl
            have hq : ps.getD j 0 = ps[j] := by simp [hjl]
            rw [hq] at hm ⊢
            have hs : small (bit mk j) = true := by unfold small bit; split <;> decide
            simp [eR_ix hm]
            unfold eB
            rw [mul_sml _ hs]
            simp [bit, hb]
          · simp; exact hlm
        | cons i l => simp [firstOf]
      · simp [items_eRs, zip_len]
      · intro q hq
        simp [is_odd_ev hl]
        cases dot n q.1 f <;> rfl
      · rw [List.length_zipIdx]; exact lim_of hk
    | cons i l => simp [firstOf]
  · simp [rngM_nat hl]
  · intro p hp
    have hpn := List.mem_range.1 hp
    simp [nin_eN]
    by_cases c : p ∈ ps
    · simp [c]
    · simp [c, eR_ix hpn]; cases f.testBit p <;> rfl
  · simpa using hl
end K75
end

section
set_option linter.all false
set_option Elab.async false
set_option maxRecDepth 100000
namespace K75
open PySem hiding ret
open Ev
open Gf (sp lo rdc tstep Rd Eq2 Tri told fv dot par Inc S clr lstep Asc LInv av pv)
theorem vl_word {t : Str} (h : okV 0 (.str t) = true) (hb : t.cps.size ≤ 10) : Vl 100 3 1000 (.tuple [.str t]) :=
  ((VlL.one (w := 10) (k := 0) ⟨by simpa [PyData.bulk] using hb, by simp [PyData.depth], okV_mono (by omega) _ h⟩ : VlL 11 0 1000 [.str t]).tup).mono (by omega) (by omega) (by omega)
theorem vl_word2 {t : Str} (h : okV 0 (.str t) = true) (hb : t.cps.size ≤ 10) {i : Nat} (hi : i ≤ 1000) : Vl 100 3 1000 (.tuple [.str t, .int (i : Nat)]) :=
  ((VlL.cons (w := 10) (k := 0) ⟨by simpa [PyData.bulk] using hb, by simp [PyData.depth], okV_mono (by omega) _ h⟩ (VlL.one (w := 0) (k := 0) (m := 1000) ⟨by simp [PyData.bulk], by simp [PyData.depth], by unfold okV; simp; omega⟩) : VlL 12 0 1000 [.str t, .int (i : Nat)]).tup).mono (by omega) (by omega) (by omega)
theorem vl_first {t : Str} (h : okV 0 (.str t) = true) (hb : t.cps.size ≤ 10) {els : D} (he : Vl 100 3 1000 els) {l : List Nat} (hl : ∀ i ∈ l, i ≤ 1000) : Vl 100 3 1000 (firstOf t els l) := by
  cases l with
  | nil => exact he
  | cons i l => exact vl_word2 h hb (hl i List.mem_cons_self)
theorem ok_form : okV 0 (.str "form") = true := by decide +kernel
theorem ok_place : okV 0 (.str "place") = true := by decide +kernel
theorem ok_base : okV 0 (.str "base") = true := by decide +kernel
theorem ok_even : okV 0 (.str "even") = true := by decide +kernel
theorem ok_outw : okV 0 (.str "out") = true := by decide +kernel
theorem vl_none : Vl 100 3 1000 .none := ⟨by simp [PyData.bulk], by simp [PyData.depth], rfl⟩
theorem vl_noneR {n mk f : Nat} {B ps : List Nat} (hn : n ≤ 1000) (hk : B.length ≤ 1000) : Vl 100 3 1000 (noneR n mk B ps f) := by
  unfold noneR
  refine vl_first ok_place (by decide +kernel) (vl_first ok_base (by decide +kernel) ?_ fun i hi => ?_) fun i hi => ?_
  · split
    · exact vl_none
    · exact vl_word ok_even (by decide +kernel)
  · obtain ⟨q, hq, e⟩ := List.mem_map.1 hi
    have := List.snd_lt_of_mem_zipIdx (List.mem_filter.1 hq).1
    omega
  · have := List.mem_range.1 (List.mem_filter.1 hi).1
    omega
theorem judge_fault {n w k m mk : Nat} {B ps : List Nat} (hn : n ≤ 998) (hB : Base n B) (h : Plc n ps) {d : D} (hd : Vl 1000 k m d) :
    ∃ r, F_judge_marks [.vw 0 (eC n B), .vw 0 (eN ps), .vw 0 (eR ps.length mk), .vw 0 d] = ret r ∧ F__law_fault [.vw 0 (eC n B), .vw 0 (eN ps), .vw 0 (eR ps.length mk), .vw 0 d] = ret r ∧ Vl 100 3 1000 r := by
  have hlB := hB.len
  have hform := vl_word ok_form (by decide +kernel)
  by_cases hsh : ∃ s x, d = .tuple [.str s, x]
  · obtain ⟨s, x, rfl⟩ := hsh
    have hd' : VlL 1000 (k - 1) m [.str s, x] := by
      refine ⟨by simpa [PyData.bulk] using hd.b, ?_, ?_⟩
      · have := hd.d
        simp [PyData.depth] at this
        exact depAll_le.1 (by omega)
      · have := hd.o
        unfold okV at this
        exact okVs_iff.1 this
    have hs : PyData.canLay0 (.str s) = true := by
      have := hd'.o (.str s) (by simp)
      unfold okV at this
      rw [Bool.and_eq_true, Bool.and_eq_true] at this
      exact this.1.1
    have hx : ∀ xs, x = .tuple xs → xs.length ≤ lim := by
      intro xs e
      have h1 := hd'.mem (x := x) (by simp)
      subst e
      have := h1.b
      simp [PyData.bulk] at this
      exact lim_of (Nat.le_trans bulk_len this)
    by_cases hc : ((("row" : Str) == s || ("none" : Str) == s) && isRowB n x) = true
    · rw [Bool.and_eq_true] at hc
      obtain ⟨f, hf, e⟩ := isRowB_eR hc.2
      subst e
      have hrow := hc.2
      rcases Bool.or_eq_true_iff.1 hc.1 with q | q
      · rw [beq_iff_eq] at q
        subst q
        obtain ⟨b, hb, hb2⟩ := law_has_ev (by omega) (by omega) hB.lt hf hB.ind
        obtain ⟨b', hb', hb2'⟩ := has_row_ev (by omega) hB.lt hf
        have ebb : b' = b := by rw [Bool.eq_iff_iff, hb2, hb2']
        subst ebb
        refine ⟨_, judge_row (by omega) (by omega) hB.lt h hf hrow hb', fault_row (by omega) (by omega) h hrow hb, vl_first ok_place (by decide +kernel) ?_ fun i hi => ?_⟩
        · split
          · exact vl_none
          · exact vl_word ok_outw (by decide +kernel)
        · obtain ⟨j, hj, e⟩ := List.mem_map.1 hi
          have := h.lt _ (getD_mem (List.mem_range.1 (List.mem_filter.1 hj).1))
          omega
      · rw [beq_iff_eq] at q
        subst q
        exact ⟨_, judge_none (by omega) (by omega) h hrow, fault_none (by omega) (by omega) h hrow, vl_noneR (by omega) (by omega)⟩
    · obtain ⟨q1, q2⟩ := form_else (n := n) (mk := mk) (B := B) (ps := ps) hx hs (Bool.eq_false_iff.2 hc)
      exact ⟨_, q1, q2, hform⟩
  · obtain ⟨q1, q2⟩ := form_no (n := n) (mk := mk) (B := B) (ps := ps) (d := d) fun s x e => hsh ⟨s, x, e⟩
    exact ⟨_, q1, q2, hform⟩
end K75
end

section
set_option linter.all false
set_option Elab.async false
set_option maxRecDepth 100000
namespace K75
open PySem hiding ret
open Ev
open Gf (sp lo rdc tstep Rd Eq2 Tri told fv dot par Inc S clr lstep Asc LInv av pv)
def lp0 : EvS := (setS 3 (callE F__law_code (argsS 1 (argsE 0 (bin ixS (lstE (consA (cst (.int 4)) (consA (cst (.int 8)) (consA (cst (.int 16)) (consA (cst (.int 12)) (consA (cst (.int 16)) nilA)))))) (rd 0 2)) argsN))))
def lp1 : EvS := (parS [4, 5, 6] (wV (bin ixS (rd 0 3) (cst (.int 0))) (wV (un reprD (rd 0 3)) (wV (callE F__law_some_row (argsS 1 (argsE 0 (rd 0 3) argsN))) argsN))))
def lp2 : EvS := (setS 7 (iteE (tst (bin eqD (callE F__law_pick (argsS 1 (argsE 0 (cst (.int 9)) argsN))) (cst (.int 0)))) (tupE nilA) (callE F__law_places (argsS 1 (argsE 0 (rd 0 4) argsN)))))
def lp3 : EvS := (setS 8 (callE F__law_at (argsE 0 (iteE (tst (bin eqD (callE F__law_pick (argsS 1 (argsE 0 (cst (.int 2)) argsN))) (cst (.int 0)))) (rd 0 6) (callE F__law_row (argsS 1 (argsE 0 (rd 0 4) argsN)))) (argsE 0 (rd 0 7) argsN))))
def lp4 : EvS := (setS 9 (iteE (tst (bin neD (rd 0 7) (tupE nilA))) (callE F__law_seen (argsE 0 (rd 0 3) (argsE 0 (rd 0 7) argsN))) (tupE (consA (cst (.int 0)) (consA (tupE nilA) nilA)))))
def lp5 : EvS := (setS 10 (orV (bin eqD (rd 0 7) (tupE nilA)) (callE F__law_has (argsE 0 (rd 0 9) (argsE 0 (rd 0 8) argsN)))))
def lp6 : EvS := (setS 11 (callE F_marks_paper (argsE 0 (rd 0 3) (argsE 0 (rd 0 7) (argsE 0 (rd 0 8) argsN)))))
def lp7 : EvS := (ifS (orT (tst (bin notNoneD (callE F__law_fault (argsE 0 (rd 0 3) (argsE 0 (rd 0 7) (argsE 0 (rd 0 8) (argsE 0 (rd 0 11) argsN))))) (cst .none))) (tst (bin neD (bin ixS (rd 0 11) (cst (.int 0))) (bin ixS (lstE (consA (cst (.str "none")) (consA (cst (.str "row")) nilA))) (un intD (rd 0 10)))))) (seq (retS (cst (.bool false))) pass) pass)
def lp8 : EvS := (setS 12 (cst (.int 1)))
def lp9_0 : EvS := (setS 12 (bin mulD (rd 0 12) (cst (.int 2))))
def lp9_B : EvS := (seq lp9_0 pass)
def lp9 : EvS := (forS (rngL (cst (.int 0)) (bin subD (un lenD (bin ixS (rd 0 3) (cst (.int 1)))) (un lenD (bin ixS (rd 0 9) (cst (.int 1)))))) (tName 0 13) lp9_B [13])
def lp10 : EvS := (ifS (orT (tst (bin neD (un reprD (callE F_marks_count (argsE 0 (rd 0 3) (argsE 0 (rd 0 7) (argsE 0 (rd 0 8) argsN))))) (un reprD (iteE (tru (rd 0 10)) (rd 0 12) (cst (.int 0)))))) (tst (bin neD (un reprD (callE F_marks_paper (argsE 0 (rd 0 3) (argsE 0 (rd 0 7) (argsE 0 (rd 0 8) argsN))))) (un reprD (rd 0 11))))) (seq (retS (cst (.bool false))) pass) pass)
def lp11 : EvS := (setS 14 (lstE (consA (rd 0 11) (consA (tupE (consA (cst (.str "row")) (consA (rd 0 6) nilA))) (consA (tupE (consA (cst (.str "none")) (consA (callE F__law_some_row (argsS 1 (argsE 0 (callE F__law_other (argsE 0 (rd 0 3) argsN)) argsN))) nilA))) (consA (tupE (consA (cst (.str "none")) (consA (callE F__law_row (argsS 1 (argsE 0 (rd 0 4) argsN))) nilA))) (consA (tupE (consA (cst (.str "row")) (consA (callE F__law_row (argsS 1 (argsE 0 (rd 0 4) argsN))) nilA))) nilA)))))))
def lp12 : EvS := (setS 15 (bin addD (bin addD (rd 0 14) (compE (comp [13] (rngL (cst (.int 0)) (cst (.int 8))) (tName 0 13) yes (callE (F__law_bent 8) (argsS 1 (argsE 0 (callE F__law_of (argsS 1 (argsE 0 (bin addD (rd 0 14) (bin mulD (lstE (consA (rd 0 11) nilA)) (cst (.int 4)))) argsN))) argsN)))))) (lstE (consA (cst .none) (consA (tupE nilA) (consA (bin ixS (rd 0 11) (cst (.int 1))) (consA (cst (.str "row")) (consA (un toLst (rd 0 11)) nilA))))))))
def lp13_0 : EvS := (setS 17 (un reprD (rd 0 16)))
def lp13_1 : EvS := (ifS (orT (tst (bin neD (un reprD (callE F_judge_marks (argsE 0 (rd 0 3) (argsE 0 (rd 0 7) (argsE 0 (rd 0 8) (argsE 0 (rd 0 16) argsN)))))) (un reprD (callE F__law_fault (argsE 0 (rd 0 3) (argsE 0 (rd 0 7) (argsE 0 (rd 0 8) (argsE 0 (rd 0 16) argsN)))))))) (tst (bin neD (un reprD (rd 0 16)) (rd 0 17)))) (seq (retS (cst (.bool false))) pass) pass)
def lp13_B : EvS := (seq lp13_0 (seq lp13_1 pass))
def lp13 : EvS := (forS (seqL (bin addD (rd 0 15) (lstE (consA (callE (F__law_bent 8) (argsS 1 (argsE 0 (callE (F__law_bent 8) (argsS 1 (argsE 0 (rd 0 11) argsN))) argsN))) nilA)))) (tName 0 16) lp13_B [16, 17])
def lp14 : EvS := (ifS (tst (bin neD (un reprD (rd 0 3)) (rd 0 5))) (seq (retS (cst (.bool false))) pass) pass)
def lpB : EvS := (seq lp0 (seq lp1 (seq lp2 (seq lp3 (seq lp4 (seq lp5 (seq lp6 (seq lp7 (seq lp8 (seq lp9 (seq lp10 (seq lp11 (seq lp12 (seq lp13 (seq lp14 pass)))))))))))))))
def le0 : EvS := (forS (rngL (cst (.int 0)) (cst (.int 5))) (tName 0 2) lpB [2, 3, 4, 5, 6, 7, 8, 9, 10, 11, 12, 13, 14, 15, 16, 17])
def le1 : EvS := (setS 3 (tupE (consA (cst (.int 4)) (consA (tupE (consA (tupE (consA (cst (.int 1)) (consA (cst (.int 1)) (consA (cst (.int 0)) (consA (cst (.int 0)) nilA))))) (consA (tupE (consA (cst (.int 0)) (consA (cst (.int 1)) (consA (cst (.int 1)) (consA (cst (.int 0)) nilA))))) nilA))) nilA))))
def le2 : EvS := (setS 11 (lstE (consA (callE F_marks_count (argsE 0 (rd 0 3) (argsE 0 (tupE (consA (cst (.int 0)) (consA (cst (.int 1)) nilA))) (argsE 0 (tupE (consA (cst (.int 1)) (consA (cst (.int 1)) nilA))) argsN)))) (consA (callE F_marks_count (argsE 0 (rd 0 3) (argsE 0 (tupE (consA (cst (.int 3)) nilA)) (argsE 0 (tupE (consA (cst (.int 1)) nilA)) argsN)))) (consA (callE F_judge_marks (argsE 0 (rd 0 3) (argsE 0 (tupE (consA (cst (.int 3)) nilA)) (argsE 0 (tupE (consA (cst (.int 1)) nilA)) (argsE 0 (tupE (consA (cst (.str "none")) (consA (tupE (consA (cst (.int 0)) (consA (cst (.int 0)) (consA (cst (.int 0)) (consA (cst (.int 1)) nilA))))) nilA))) argsN))))) nilA)))))
def le3 : EvS := (retS (bin eqD (un reprD (rd 0 11)) (un reprD (lstE (consA (cst (.int 1)) (consA (cst (.int 0)) (consA (cst .none) nilA)))))))
theorem law_eq : b_law = (seq le0 (seq le1 (seq le2 (seq le3 pass)))) := rfl
theorem Ok.seq {a b : EvS} {ss : Slots} {Q : Out → Prop} {P : Slots → Prop} (h : Ok (a ss) fun o => ∃ ss', o = .nx ss' ∧ P ss') (k : ∀ ss', P ss' → Ok (b ss') Q) : Ok (Ev.seq a b ss) Q := by
  rw [ev_seq]
  refine h.bnd fun o ⟨ss', e, p⟩ => ?_
  subst e
  exact k ss' p
theorem vl_int {i : Int} {m : Nat} (h : i.natAbs ≤ m) : Vl 0 0 m (.int i) := ⟨by simp [PyData.bulk], by simp [PyData.depth], by unfold okV; exact decide_eq_true h⟩
theorem vl_ints {m : Nat} : ∀ (l : List Int), (∀ i ∈ l, i.natAbs ≤ m) → VlL l.length 0 m (l.map .int)
  | [], _ => VlL.nil
  | i :: l, h => ((VlL.cons (vl_int (h i List.mem_cons_self)) (vl_ints l fun j hj => h j (List.mem_cons_of_mem _ hj)))).mono (by simp; omega) (Nat.le_refl _) (Nat.le_refl _)
theorem vl_eL {m : Nat} {l : List Int} (h : ∀ i ∈ l, i.natAbs ≤ m) : Vl l.length 1 m (eL l) := (vl_ints l h).tup
theorem vl_eR {n v : Nat} : Vl n 1 1 (eR n v) := by
  have := vl_eL (m := 1) (l := (List.range n).map (bit v)) fun i hi => by
    obtain ⟨j, _, e⟩ := List.mem_map.1 hi
    rw [← e]; unfold bit; split <;> decide
  have e : eL ((List.range n).map (bit v)) = eR n v := by unfold eL eR eB; rw [List.map_map]; rfl
  rw [e] at this
  simpa using this
theorem vl_eRs {n : Nat} : ∀ B : List Nat, VlL (B.length * (n + 1)) 1 1 (eRs n B)
  | [] => VlL.mono (w := 0) (k := 0) (m := 0) VlL.nil (by simp) (by omega) (by omega)
  | b :: B => (VlL.cons (vl_eR (n := n) (v := b)) (vl_eRs B)).mono (by simp [Nat.add_mul]; omega) (Nat.le_refl _) (Nat.le_refl _)
theorem vl_eC {n : Nat} {B : List Nat} (hn : n ≤ 16) (hB : B.length ≤ 16) : Vl 400 3 16 (eC n B) := by
  have h1 : VlL (B.length * (n + 1)) 1 16 (eRs n B) := (vl_eRs B).mono (Nat.le_refl _) (Nat.le_refl _) (by omega)
  have h2 : B.length * (n + 1) ≤ 16 * 17 := Nat.mul_le_mul hB (by omega)
  exact (VlL.cons (Vl.mono (vl_int (i := (n : Int)) (m := 16) (by omega)) (Nat.le_refl 0) (show 0 ≤ 2 by omega) (Nat.le_refl 16)) (VlL.one (h1.tup))).tup.mono (by omega) (Nat.le_refl _) (Nat.le_refl _)
theorem ok_in : okV 16 (.str "in") = true := by decide +kernel
theorem ok_out : okV 16 (.str "out") = true := by decide +kernel
theorem vl_pair {t : Str} {w : Nat} {d : D} (h : okV 16 (.str t) = true) (hb : t.cps.size ≤ 3) (hd : Vl w 1 16 d) (hw : w ≤ 30) : Vl 40 2 16 (.tuple [.str t, d]) :=
  (VlL.cons (w := 3) (k := 1) ⟨by simpa [PyData.bulk] using hb, by simp [PyData.depth], h⟩ (VlL.one hd)).tup.mono (by omega) (by omega) (by omega)
theorem vl_show {w k m : Nat} {d : D} (h : Vl w k m d) (hw : w ≤ 1000) (hk : k ≤ 60) (hm : m ≤ 1000000) : reprD d = some (.str d.shown) ∧ sOk d.shown :=
  ⟨h.repr (by omega) hk (by omega), shown_sOk d h.o⟩
theorem vl_bool (b : Bool) : Vl 0 0 0 (.bool b) := ⟨by simp [PyData.bulk], by simp [PyData.depth], rfl⟩
theorem ok_row : okV 16 (.str "row") = true := by decide +kernel
theorem ok_non : okV 16 (.str "none") = true := by decide +kernel
theorem vl_pair4 {t : Str} {w : Nat} {d : D} (h : okV 16 (.str t) = true) (hb : t.cps.size ≤ 4) (hd : Vl w 1 16 d) (hw : w ≤ 30) : Vl 40 2 16 (.tuple [.str t, d]) :=
  (VlL.cons (w := 4) (k := 1) ⟨by simpa [PyData.bulk] using hb, by simp [PyData.depth], h⟩ (VlL.one hd)).tup.mono (by omega) (by omega) (by omega)
theorem isRow_eR (n f : Nat) : isRowB n (eR n f) = true := by
  unfold isRowB eR
  dsimp only
  rw [Bool.and_eq_true]
  refine ⟨?_, by simp⟩
  rw [List.all_eq_true]
  intro x hx
  obtain ⟨i, _, rfl⟩ := List.mem_map.1 hx
  unfold eB bit blw
  cases f.testBit i <;> rfl
/-- the told paper is right -/
structure Told (n mk : Nat) (B ps : List Nat) (b : Bool) (T : D) : Prop where
  pp : F_marks_paper [.vw 0 (eC n B), .vw 0 (eN ps), .vw 0 (eR ps.length mk)] = ret T
  ft : F__law_fault [.vw 0 (eC n B), .vw 0 (eN ps), .vw 0 (eR ps.length mk), .vw 0 T] = ret .none
  vl : Vl 40 2 16 T
  sh : ∃ x, Vl 30 1 16 x ∧ T = .tuple [.str (if b then "row" else "none"), x]
theorem told_ok {n mk : Nat} {B ps : List Nat} (hn : n ≤ 16) (hB : Base n B) (h : Plc n ps) (hm : mk < 2 ^ ps.length) : ∃ b T, (b = true ↔ sp (at' ps B) mk) ∧ Told n mk B ps b T := by
  have hlB := hB.len
  have vr : ∀ v, Vl 30 1 16 (eR n v) := fun v => vl_eR.mono (by omega) (by omega) (by omega)
  by_cases h0 : ps = []
  · subst h0
    have hmk : mk = 0 := by simp at hm; omega
    obtain ⟨b, hb, hb2⟩ := law_has_ev (n := n) (v := 0) (rows := B) (by omega) (by omega) hB.lt (Nat.two_pow_pos n) hB.ind
    have hbt : b = true := hb2.2 (Gf.sp0 _)
    subst hbt
    have hf := fault_row (mk := mk) (by omega) (by omega) h (isRow_eR n 0) hb
    exact ⟨true, _, ⟨fun _ => by rw [hmk]; exact Gf.sp0 _, fun _ => rfl⟩, paper_nil (by omega), hf, vl_pair4 ok_row (by decide +kernel) (vr 0) (by omega), _, vr 0, rfl⟩
  · obtain ⟨b, T, hb, hT, pap⟩ := paper_ev (rows := B) (by omega) (by omega) h h0 hm
    refine ⟨b, T, hb, hT, ?_, ?_, ?_⟩
    · cases pap with
      | yes l h1 h2 =>
        obtain ⟨b', hb', hb2'⟩ := law_has_ev (n := n) (v := S B l) (rows := B) (by omega) (by omega) hB.lt (Gf.sp_lt hB.lt Gf.S_sp) hB.ind
        have hbt : b' = true := hb2'.2 Gf.S_sp
        subst hbt
        have hf := fault_row (mk := mk) (by omega) (by omega) h (isRow_eR n (S B l)) hb'
        have hw : wrongR ps (S B l) mk = [] := by
          unfold wrongR
          rw [List.map_eq_nil_iff, List.filter_eq_nil_iff]
          intro j hj
          have hjl := List.mem_range.1 hj
          have hq : ps.getD j 0 = ps[j] := by simp [hjl]
          rw [hq, ← Gf.av_bit hjl, h2]
          simp
        rw [hw] at hf
        exact hf
      | no f h1 h2 h3 =>
        have hf := fault_none (mk := mk) (show n ≤ 1000 by omega) (show B.length ≤ 1000 by omega) h (isRow_eR n (pv n ps f))
        have hw : wrongN n ps (pv n ps f) = [] := by
          unfold wrongN
          rw [List.filter_eq_nil_iff]
          intro p hp
          rw [Gf.pv_bit (List.mem_range.1 hp)]
          cases ps.contains p <;> simp
        have ho : odds n (pv n ps f) B = [] := by
          unfold odds
          rw [List.map_eq_nil_iff, List.filter_eq_nil_iff]
          intro q hq
          rw [Gf.dot_pv h.nd h.lt, h3 q.1 (List.fst_mem_of_mem_zipIdx hq)]; simp
        have ha : av (pv n ps f) ps = f := by
          refine Gf.bext (Gf.av_lt _ _) h1 fun j hj => ?_
          rw [Gf.av_bit hj, Gf.pv_bit (h.lt _ (List.getElem_mem _)), h.nd.idxOf_getElem j hj]
          simp
        unfold noneR at hf
        rw [hw, ho, ha, Gf.dot_comm, h2] at hf
        exact hf
    · cases pap with
      | yes l h1 h2 => exact vl_pair4 ok_row (by decide +kernel) (vr _) (by omega)
      | no f h1 h2 h3 => exact vl_pair4 ok_non (by decide +kernel) (vr _) (by omega)
    · cases pap with
      | yes l h1 h2 => exact ⟨_, vr _, rfl⟩
      | no f h1 h2 h3 => exact ⟨_, vr _, rfl⟩
theorem told_0 (rows : List Nat) : told 0 rows = [] := by unfold Gf.told; simp
def cnt (b : Bool) (B ps : List Nat) : Nat := if b then 2 ^ (B.length - (told ps.length (at' ps B)).length) else 0
theorem shl_nat {k : Nat} (h : k ≤ 1000) : shlD (.int 1) (.int (k : Nat)) = some (.int ((2 ^ k : Nat) : Int)) := by
  show (if _ then _ else _) = _
  rw [if_pos ⟨by omega, by omega, by decide⟩]
  simp
def bcount (op : D → D → Option D) (Fm Fr : Fn) : EvS := (seq (ifS (tst (bin eqD (bin ixS (callE Fm (argsE 0 (rd 0 0) (argsE 0 (rd 0 1) (argsE 0 (rd 0 2) argsN)))) (cst (.int 0))) (cst (.str "none")))) (seq (retS (cst (.int 0))) pass) pass) (seq (retS (bin op (cst (.int 1)) (bin subD (un lenD (bin ixS (rd 0 0) (cst (.int 1)))) (callE Fr (argsE 0 (rd 0 0) (argsE 0 (rd 0 1) argsN)))))) pass))
theorem count_eq : F_marks_count = runF 3 (bcount shlD F_marks_paper F_rank_at) := rfl
theorem count_ev {n mk : Nat} {B ps : List Nat} {b : Bool} {T : D} (hn : n ≤ 16) (hB : Base n B) (h : Plc n ps) (hT : Told n mk B ps b T) : F_marks_count [.vw 0 (eC n B), .vw 0 (eN ps), .vw 0 (eR ps.length mk)] = ret (.int (cnt b B ps : Nat)) := by
  have hlB := hB.len
  have hr := rank_at_ev (rows := B) (show n ≤ 1000 by omega) (by omega) h
  have hr' : F_rank_at [.vw 0 (eC n B), .vw 0 (eN ps)] = ret (.int ((told ps.length (at' ps B)).length : Nat)) := by
    rw [hr]
    cases ps with
    | nil => simp [told_0]
    | cons p ps => simp
  have hle := Gf.told_len_le _ (at' ps B) rfl (at_lt ps B)
  have hle2 : (at' ps B).length = B.length := by simp [at']
  have hpp := hT.pp
  obtain ⟨x, _, e⟩ := hT.sh
  subst e
  cases b with
  | true =>
    have e2 := eq_str str_row str_non
    rw [row_non] at e2
    simp at hpp
    have hc : (B.length : Int) - ((told ps.length (at' ps B)).length : Int) = ((B.length - (told ps.length (at' ps B)).length : Nat) : Int) := by omega
    have gen : ∀ (op : D → D → Option D) (Fm Fr : Fn) (P M z : D) (r : Nat), Fm [.vw 0 (eC n B), .vw 0 P, .vw 0 M] = ret (.tuple [.str "row", x]) → Fr [.vw 0 (eC n B), .vw 0 P] = ret (.int (r : Nat)) → op (.int 1) (.int ((B.length : Int) - (r : Int))) = some z → runF 3 (bcount op Fm Fr) [.vw 0 (eC n B), .vw 0 P, .vw 0 M] = ret z := by
      intro op Fm Fr P M z r hm hrr hop
      simp [bcount, hm, e2, eRs_len, hrr, hop]
    rw [count_eq]
    refine gen shlD _ _ _ _ _ _ hpp hr' ?_
    rw [hc, shl_nat (by omega)]
    simp [cnt]
  | false =>
    simp at hpp
    have gen : ∀ (op : D → D → Option D) (Fm Fr : Fn) (P M : D), Fm [.vw 0 (eC n B), .vw 0 P, .vw 0 M] = ret (.tuple [.str "none", x]) → runF 3 (bcount op Fm Fr) [.vw 0 (eC n B), .vw 0 P, .vw 0 M] = ret (.int 0) := by
      intro op Fm Fr P M hm
      simp [bcount, hm, eq_same str_non]
    rw [count_eq]
    exact gen shlD _ _ _ _ hpp
end K75
end

section
set_option linter.all false
set_option Elab.async false
set_option maxRecDepth 100000
namespace K75
open PySem hiding ret
open Ev
open Gf (sp lo rdc tstep Rd Eq2 Tri told fv dot par Inc S clr lstep Asc LInv av pv)
abbrev st (x2 x3 x4 x5 x6 x7 x8 x9 x10 x11 x12 x13 x14 x15 : Slot) : Slots := [.dead, .src, x2, x3, x4, x5, x6, x7, x8, x9, x10, x11, x12, x13, x14, x15, .dead, .dead]
abbrev vv (d : D) : Slot := .vw 0 d
theorem lp0_ok {i : Nat} (hi : i < 5) : Ok (lp0 (st (vv (.int (i : Nat))) .dead .dead .dead .dead .dead .dead .dead .dead .dead .dead .dead .dead .dead)) fun o => ∃ ss', o = .nx ss' ∧ ∃ n B, 1 ≤ n ∧ n ≤ 16 ∧ Base n B ∧
    ss' = st (vv (.int (i : Nat))) (vv (eC n B)) .dead .dead .dead .dead .dead .dead .dead .dead .dead .dead .dead .dead := by
  have hix : ∃ most : Nat, 1 ≤ most ∧ most ≤ 16 ∧ ixS (.list [.int 4, .int 8, .int 16, .int 12, .int 16]) (.int (i : Nat)) = some (.int (most : Nat)) := by
    rw [ix_ln (by simpa using hi)]
    match i, hi with
    | 0, _ => exact ⟨4, by omega, by omega, rfl⟩
    | 1, _ => exact ⟨8, by omega, by omega, rfl⟩
    | 2, _ => exact ⟨16, by omega, by omega, rfl⟩
    | 3, _ => exact ⟨12, by omega, by omega, rfl⟩
    | 4, _ => exact ⟨16, by omega, by omega, rfl⟩
  obtain ⟨most, h1, h2, e⟩ := hix
  simp [lp0, e]
  refine (code_ok h1 (by omega)).bnd fun d ⟨n, B, q1, q2, q3, q4⟩ => ?_
  subst q4
  exact .ret ⟨_, rfl, n, q1, by omega, B, q3, rfl⟩
theorem lp1_ok {a : Slot} {n : Nat} {B : List Nat} (hn : n ≤ 16) (hB : Base n B) : Ok (lp1 (st a (vv (eC n B)) .dead .dead .dead .dead .dead .dead .dead .dead .dead .dead .dead .dead)) fun o => ∃ ss', o = .nx ss' ∧ ∃ v, v < 2 ^ n ∧
    ss' = st a (vv (eC n B)) (vv (.int (n : Nat))) (vv (.str (eC n B).shown)) (vv (eR n v)) .dead .dead .dead .dead .dead .dead .dead .dead .dead := by
  have hl := hB.len
  have hs := vl_show (vl_eC (n := n) (B := B) hn (by omega)) (by omega) (by omega) (by omega)
  simp only [eC] at hs
  simp [lp1, hs.1]
  refine (some_row_ok (by omega) hB.lt).bnd fun d ⟨v, hv, e⟩ => ?_
  subst e
  exact .ret ⟨_, rfl, v, hv, rfl⟩
theorem ne_eN (ps : List Nat) : neD (eN ps) (.tuple []) = some (.bool (!ps.isEmpty)) := by
  unfold eN neD
  rw [shaped_ti, show SeqAt.shaped (.tuple []) = true from shaped_ti (α := Int) id []]
  cases ps <;> simp [PyData.eqv, PyData.eqvAll]
theorem eq_eN (ps : List Nat) : eqD (eN ps) (.tuple []) = some (.bool ps.isEmpty) := by
  unfold eN; rw [eq_t0]; simp
theorem places_ok {n : Nat} (hn : 1 ≤ n) (hn2 : n ≤ 1000) : Ok (F__law_places [.src, .vw 0 (.int (n : Nat))]) fun d => ∃ ps, Plc n ps ∧ d = eN ps := by
  have hl := lim_of hn2
  simp [F__law_places, b__law_places]
  refine (Ok.comps (List.range n) (fun i => .int (i : Nat)) (fun i => .int (i : Nat)) (by simp [rngM_nat hl]) ?_ (by simpa using hl)).bnd fun ys ⟨zs, h1, h2⟩ => ?_
  · intro i hi
    simp
    refine (pick_ok (many := 2) (by decide)).bnd fun d ⟨r, hr, _⟩ => ?_
    subst hr
    by_cases z : r = 0
    · simp [z]; exact .ret (.inr rfl)
    · simp [z]; exact .ret (.inl rfl)
  · subst h2
    rw [show (.tuple (zs.map fun i => .int (i : Nat)) : D) = eN zs from rfl, ne_eN]
    have hz : Plc n zs := ⟨h1.nodup List.nodup_range, fun p hp => List.mem_range.1 (h1.subset hp)⟩
    cases zs with
    | cons z zs => simp; exact .ret ⟨_, hz, rfl⟩
    | nil =>
      simp
      refine (pick_ok (many := n) (by omega)).bnd fun d ⟨r, hr, hr2⟩ => ?_
      subst hr
      exact .ret ⟨[r], ⟨by simp, fun p hp => by rw [List.mem_singleton] at hp; omega⟩, rfl⟩
theorem lp2_ok {a c3 c5 c6 : Slot} {n : Nat} (hn : 1 ≤ n) (hn2 : n ≤ 1000) : Ok (lp2 (st a c3 (vv (.int (n : Nat))) c5 c6 .dead .dead .dead .dead .dead .dead .dead .dead .dead)) fun o => ∃ ss', o = .nx ss' ∧ ∃ ps, Plc n ps ∧
    ss' = st a c3 (vv (.int (n : Nat))) c5 c6 (vv (eN ps)) .dead .dead .dead .dead .dead .dead .dead .dead := by
  simp [lp2]
  refine (pick_ok (many := 9) (by decide)).bnd fun d ⟨r, hr, _⟩ => ?_
  subst hr
  by_cases z : r = 0
  · simp [z]
    exact .ret ⟨_, rfl, [], ⟨by simp, fun p hp => by cases hp⟩, rfl⟩
  · simp [z]
    refine (places_ok hn hn2).bnd fun d ⟨ps, h, e⟩ => ?_
    subst e
    exact .ret ⟨_, rfl, ps, h, rfl⟩
theorem lp3_ok {a c3 c5 : Slot} {n v : Nat} {ps : List Nat} (hn2 : n ≤ 1000) (h : Plc n ps) : Ok (lp3 (st a c3 (vv (.int (n : Nat))) c5 (vv (eR n v)) (vv (eN ps)) .dead .dead .dead .dead .dead .dead .dead .dead)) fun o => ∃ ss', o = .nx ss' ∧ ∃ mk, mk < 2 ^ ps.length ∧
    ss' = st a c3 (vv (.int (n : Nat))) c5 (vv (eR n v)) (vv (eN ps)) (vv (eR ps.length mk)) .dead .dead .dead .dead .dead .dead .dead := by
  simp [lp3]
  refine (pick_ok (many := 2) (by decide)).bnd fun d ⟨r, hr, _⟩ => ?_
  subst hr
  by_cases z : r = 0
  · simp [z, law_at_ev hn2 h]
    exact .ret ⟨_, rfl, _, Gf.av_lt v ps, rfl⟩
  · simp [z]
    refine (row_ok hn2).bnd fun d ⟨w, hw, e⟩ => ?_
    subst e
    simp [law_at_ev hn2 h]
    exact .ret ⟨_, rfl, _, Gf.av_lt w ps, rfl⟩
theorem lp4_ok {a c4 c5 c6 c8 : Slot} {n : Nat} {B ps : List Nat} (hn : n ≤ 16) (hB : Base n B) (h : Plc n ps) :
    lp4 (st a (vv (eC n B)) c4 c5 c6 (vv (eN ps)) c8 .dead .dead .dead .dead .dead .dead .dead) = ret (.nx (st a (vv (eC n B)) c4 c5 c6 (vv (eN ps)) c8 (vv (eC ps.length (told ps.length (at' ps B)))) .dead .dead .dead .dead .dead .dead)) := by
  have hlB := hB.len
  have e := law_seen_ev (rows := B) (show n ≤ 1000 by omega) (by omega) h
  cases ps with
  | nil => simp [lp4, ne_eN, told_0]; rfl
  | cons p ps => simp at e; simp [lp4, ne_eN, e]
theorem there_ok {n mk : Nat} {B ps : List Nat} (hn : n ≤ 16) (hB : Base n B) (h : Plc n ps) (hm : mk < 2 ^ ps.length) :
    ∃ b : Bool, (b = true ↔ sp (at' ps B) mk) ∧ ∀ a c3 c4 c5 c6, lp5 (st a c3 c4 c5 c6 (vv (eN ps)) (vv (eR ps.length mk)) (vv (eC ps.length (told ps.length (at' ps B)))) .dead .dead .dead .dead .dead .dead) =
      ret (.nx (st a c3 c4 c5 c6 (vv (eN ps)) (vv (eR ps.length mk)) (vv (eC ps.length (told ps.length (at' ps B)))) (vv (.bool b)) .dead .dead .dead .dead .dead)) := by
  have hlB := hB.len
  have hlp := h.len
  cases ps with
  | nil =>
    refine ⟨true, ⟨fun _ => ?_, fun _ => rfl⟩, fun a c3 c4 c5 c6 => by simp [lp5, eq_eN]⟩
    have : mk = 0 := by simp at hm; omega
    rw [this]; exact Gf.sp0 _
  | cons p ps =>
    have hT := Base.told (at_lt (p :: ps) B)
    have hl2 := hT.len
    obtain ⟨b, hb, hb2⟩ := law_has_ev (n := (p :: ps).length) (v := mk) (rows := told (p :: ps).length (at' (p :: ps) B)) (by omega) (by omega) hT.lt hm hT.ind
    refine ⟨b, hb2.trans ((Gf.told_spec (at_lt (p :: ps) B)).2.2 mk), fun a c3 c4 c5 c6 => ?_⟩
    simp only [List.length_cons] at hb
    simp [lp5, eq_eN]
    rw [hb]
    rfl
end K75
end

section
set_option linter.all false
set_option Elab.async false
set_option maxRecDepth 100000
namespace K75
open PySem hiding ret
open Ev
open Gf (sp lo rdc tstep Rd Eq2 Tri told fv dot par Inc S clr lstep Asc LInv av pv)
abbrev seen (B ps : List Nat) : D := eC ps.length (told ps.length (at' ps B))
theorem lp6_ok {a c4 c5 c6 c9 c10 : Slot} {n mk : Nat} {B ps : List Nat} {b : Bool} {T : D} (h : Told n mk B ps b T) :
    lp6 (st a (vv (eC n B)) c4 c5 c6 (vv (eN ps)) (vv (eR ps.length mk)) c9 c10 .dead .dead .dead .dead .dead) = ret (.nx (st a (vv (eC n B)) c4 c5 c6 (vv (eN ps)) (vv (eR ps.length mk)) c9 c10 (vv T) .dead .dead .dead .dead)) := by
  have := h.pp
  simp [lp6, this]
theorem lp7_ok {a c4 c5 c6 c9 : Slot} {n mk : Nat} {B ps : List Nat} {b : Bool} {T : D} (h : Told n mk B ps b T) :
    lp7 (st a (vv (eC n B)) c4 c5 c6 (vv (eN ps)) (vv (eR ps.length mk)) c9 (vv (.bool b)) (vv T) .dead .dead .dead .dead) = ret (.nx (st a (vv (eC n B)) c4 c5 c6 (vv (eN ps)) (vv (eR ps.length mk)) c9 (vv (.bool b)) (vv T) .dead .dead .dead .dead)) := by
  have e1 := h.ft
  obtain ⟨x, _, e⟩ := h.sh
  subst e
  cases b with
  | true => simp at e1; simp [lp7, e1, ne_same str_row]
  | false => simp at e1; simp [lp7, e1, ne_same str_non]
theorem lp8_ok {a c3 c4 c5 c6 c7 c8 c9 c10 c11 : Slot} : lp8 (st a c3 c4 c5 c6 c7 c8 c9 c10 c11 .dead .dead .dead .dead) = ret (.nx (st a c3 c4 c5 c6 c7 c8 c9 c10 c11 (vv (.int 1)) .dead .dead .dead)) := by
  simp [lp8]
theorem lp9_ok {a c4 c5 c6 c7 c8 c10 c11 : Slot} {n : Nat} {B ps : List Nat} (hk : B.length ≤ 500) :
    lp9 (st a (vv (eC n B)) c4 c5 c6 c7 c8 (vv (seen B ps)) c10 c11 (vv (.int 1)) .dead .dead .dead) = ret (.nx (st a (vv (eC n B)) c4 c5 c6 c7 c8 (vv (seen B ps)) c10 c11 (vv (.int ((2 ^ (B.length - (told ps.length (at' ps B)).length) : Nat) : Int))) .dead .dead .dead)) := by
  have hle := Gf.told_len_le _ (at' ps B) rfl (at_lt ps B)
  have hle2 : (at' ps B).length = B.length := by simp [at']
  have hc : (B.length : Int) - ((told ps.length (at' ps B)).length : Int) = ((B.length - (told ps.length (at' ps B)).length : Nat) : Int) := by omega
  simp only [seen]
  generalize told ps.length (at' ps B) = R at *
  have hk2 : B.length - R.length ≤ lim := lim_of (by omega)
  simp [lp9, eRs_len]
  rw [hc, rngM_nat hk2, bnd_ret]
  rw [forL_pre (List.range (B.length - R.length)) (fun i => .int (i : Nat)) (fun pre => st a (vv (eC n B)) c4 c5 c6 c7 c8 (vv (eC ps.length R)) c10 c11 (vv (.int ((2 ^ pre.length : Nat) : Int))) .dead .dead .dead)]
  · simp
  · rfl
  · rfl
  · intro pre x post he
    have s2 : small 2 = true := by decide
    simp [lp9_B, lp9_0, mul_sml _ s2, Int.pow_succ]
theorem vl_cnt {b : Bool} {B ps : List Nat} (hk : B.length ≤ 16) : Vl 0 0 70000 (.int (cnt b B ps : Nat)) := by
  refine vl_int ?_
  rw [Int.natAbs_natCast]
  unfold cnt
  split
  · have : 2 ^ (B.length - (told ps.length (at' ps B)).length) ≤ 2 ^ 16 := Nat.pow_le_pow_right (by decide) (by omega)
    exact Nat.le_trans this (by decide)
  · decide
theorem lp10_ok {a c4 c5 c6 c9 : Slot} {n mk : Nat} {B ps : List Nat} {b : Bool} {T : D} (hn : n ≤ 16) (hB : Base n B) (hP : Plc n ps) (h : Told n mk B ps b T) :
    lp10 (st a (vv (eC n B)) c4 c5 c6 (vv (eN ps)) (vv (eR ps.length mk)) c9 (vv (.bool b)) (vv T) (vv (.int ((2 ^ (B.length - (told ps.length (at' ps B)).length) : Nat) : Int))) .dead .dead .dead) =
      ret (.nx (st a (vv (eC n B)) c4 c5 c6 (vv (eN ps)) (vv (eR ps.length mk)) c9 (vv (.bool b)) (vv T) (vv (.int ((2 ^ (B.length - (told ps.length (at' ps B)).length) : Nat) : Int))) .dead .dead .dead)) := by
  have hlB := hB.len
  have e1 := h.pp
  have e2 := count_ev hn hB hP h
  obtain ⟨r1, r2⟩ := vl_show (vl_cnt (b := b) (B := B) (ps := ps) (by omega)) (by omega) (by omega) (by omega)
  obtain ⟨r3, r4⟩ := vl_show h.vl (by omega) (by omega) (by omega)
  have hcnt : b = true → cnt b B ps = 2 ^ (B.length - (told ps.length (at' ps B)).length) := fun e => by unfold cnt; rw [if_pos e]
  have hcn0 : b = false → cnt b B ps = 0 := fun e => by unfold cnt; rw [e]; rfl
  generalize (2 ^ (B.length - (told ps.length (at' ps B)).length) : Nat) = w at *
  generalize cnt b B ps = c at *
  have n1 := ne_same r2
  have n2 := ne_same r4
  cases b with
  | true =>
    have := hcnt rfl
    subst this
    simp [lp10, e1, e2, r1, r3, n1, n2, truD]
  | false =>
    have := hcn0 rfl
    subst this
    simp only [Int.natCast_zero] at e2 r1 n1
    simp [lp10, e1, e2, r1, r3, n1, n2, truD]
end K75
end

section
set_option linter.all false
set_option Elab.async false
set_option maxRecDepth 100000
namespace K75
open PySem hiding ret
open Ev
open Gf (sp lo rdc tstep Rd Eq2 Tri told fv dot par Inc S clr lstep Asc LInv av pv)
theorem lp11_ok {a c5 c7 c8 c9 c10 c12 : Slot} {n v : Nat} {B : List Nat} {T : D} (hn : n ≤ 16) (hB : Base n B) (hT : Vl 40 2 16 T) :
    Ok (lp11 (st a (vv (eC n B)) (vv (.int (n : Nat))) c5 (vv (eR n v)) c7 c8 c9 c10 (vv T) c12 .dead .dead .dead)) fun o => ∃ ss', o = .nx ss' ∧ ∃ own : List D, own.length = 5 ∧ (∀ d ∈ own, Vl 40 2 16 d) ∧ ss' = st a (vv (eC n B)) (vv (.int (n : Nat))) c5 (vv (eR n v)) c7 c8 c9 c10 (vv T) c12 .dead (vv (.list own)) .dead := by
  have hl := hB.len
  have e := law_other_ev (show n ≤ 1000 by omega) (show B.length ≤ 1000 by omega) hB.lt
  obtain ⟨hR, _, _⟩ := Gf.told_spec hB.lt
  have hb : ∀ b ∈ told n (frees n (told n B)), b < 2 ^ n := (Gf.told_spec (free_lt hR)).1.lt
  have hr : ∀ w, Vl 30 1 16 (eR n w) := fun w => vl_eR.mono (by omega) (by omega) (by omega)
  simp [lp11, e]
  refine (some_row_ok (show n ≤ 1000 by omega) hb).bnd fun d ⟨v1, hv1, e⟩ => ?_
  subst e
  refine (row_ok (show n ≤ 1000 by omega)).bnd fun d ⟨v2, hv2, e⟩ => ?_
  subst e
  refine (row_ok (show n ≤ 1000 by omega)).bnd fun d ⟨v3, hv3, e⟩ => ?_
  subst e
  refine .ret ⟨_, rfl, _, ?_, ?_, rfl⟩
  · rfl
  · intro d hd
    simp at hd
    rcases hd with e | e | e | e | e
    · rw [e]; exact hT
    · rw [e]; exact vl_pair4 ok_row (by decide +kernel) (hr _) (by omega)
    · rw [e]; exact vl_pair4 ok_non (by decide +kernel) (hr _) (by omega)
    · rw [e]; exact vl_pair4 ok_non (by decide +kernel) (hr _) (by omega)
    · rw [e]; exact vl_pair4 ok_row (by decide +kernel) (hr _) (by omega)
theorem rep4 (T : D) : mulD (.list [T]) (.int 4) = some (.list [T, T, T, T]) := by
  unfold mulD repL
  simp [List.replicate]
theorem lp12_ok {a c3 c4 c5 c6 c7 c8 c9 c10 c12 : Slot} {T : D} {own : List D} (ho : own.length = 5) (hown : ∀ d ∈ own, Vl 40 2 16 d) (hT : Vl 40 2 16 T) (hsh : ∃ t x, okV 16 (.str t) = true ∧ Vl 30 1 16 x ∧ T = .tuple [.str t, x]) :
    Ok (lp12 (st a c3 c4 c5 c6 c7 c8 c9 c10 (vv T) c12 .dead (vv (.list own)) .dead)) fun o => ∃ ss', o = .nx ss' ∧ ∃ vals : List D, vals.length ≤ 100 ∧ (∀ d ∈ vals, Vl 172 6 18 d) ∧ ss' = st a c3 c4 c5 c6 c7 c8 c9 c10 (vv T) c12 .dead (vv (.list own)) (vv (.list vals)) := by
  have hr8 : rngM (ret (.int 0)) (ret (.int 8)) = ret ((List.range 8).map fun i => .int (i : Nat)) := rngM_nat (n := 8) (by decide)
  simp [lp12]
  refine (Ok.comp (List.range 8) (fun i => .int (i : Nat)) (fun _ y => Vl 84 4 17 y) (by simp [hr8]) ?_ (by simp)).bnd fun ys hys => ?_
  · intro i hi
    simp [rep4]
    rw [add_lst (by simp [ho])]
    simp
    refine (of_ok (by simp) (by simp [ho])).bnd fun d hd => ?_
    have hd' : Vl 40 2 16 d := by
      simp at hd
      rcases hd with e | e
      · exact hown d e
      · rw [e]; exact hT
    refine (bent_ok 8 40 2 16 d hd' (by omega) (by omega) (by omega)).bnd fun y hy => ?_
    exact .ret ⟨y, rfl, hy⟩
  · have hlen := hys.len
    simp at hlen
    have c2 : own.length + ys.length ≤ lim := by unfold lim; omega
    have c3 : own.length + ys.length + 5 ≤ lim := by unfold lim; omega
    have c4 : own.length + (ys.length + 5) ≤ lim := by unfold lim; omega
    obtain ⟨t, x, ht, hx, e⟩ := hsh
    have hTl : VlL 40 1 16 [.str t, x] := by
      refine ⟨?_, ?_, ?_⟩
      · have := hT.b; rw [e] at this; simpa [PyData.bulk] using this
      · have := hT.d; rw [e] at this; simp [PyData.depth] at this; exact depAll_le.1 (by omega)
      · have := hT.o; rw [e] at this; unfold okV at this; exact okVs_iff.1 this
    subst e
    simp [add_lst, c2, c3, c4]
    refine .ret ⟨_, rfl, _, ?_, ?_, rfl⟩
    · simp; omega
    · intro d hd
      simp at hd
      rcases hd with e | e | e | e | e | e | e
      · exact (hown d e).mono (by omega) (by omega) (by omega)
      · obtain ⟨_, _, q⟩ := hys.all d e
        exact q.mono (by omega) (by omega) (by omega)
      · rw [e]; exact ⟨by simp [PyData.bulk], by simp [PyData.depth], rfl⟩
      · rw [e]; exact (VlL.tup (VlL.nil (w := 0) (k := 0) (m := 0))).mono (by omega) (by omega) (by omega)
      · rw [e]; exact hx.mono (by omega) (by omega) (by omega)
      · rw [e]; exact ⟨by simp [PyData.bulk]; decide +kernel, by simp [PyData.depth], okV_mono (by omega) _ ok_row⟩
      · rw [e]; exact (hTl.lst).mono (by omega) (by omega) (by omega)
theorem lp13_ok {a c4 c5 c6 c9 c10 c12 c14 : Slot} {n mk : Nat} {B ps : List Nat} {T : D} {vals : List D} (hn : n ≤ 16) (hB : Base n B) (hP : Plc n ps) (hl : vals.length ≤ 100) (hv : ∀ d ∈ vals, Vl 172 6 18 d) (hT : Vl 40 2 16 T) :
    Ok (lp13 (st a (vv (eC n B)) c4 c5 c6 (vv (eN ps)) (vv (eR ps.length mk)) c9 c10 (vv T) c12 .dead c14 (vv (.list vals)))) fun o => ∃ ss', o = .nx ss' ∧ ss' = st a (vv (eC n B)) c4 c5 c6 (vv (eN ps)) (vv (eR ps.length mk)) c9 c10 (vv T) c12 .dead c14 (vv (.list vals)) := by
  have hBl := hB.len
  simp [lp13]
  refine (bent_ok 8 40 2 16 T hT (by omega) (by omega) (by omega)).bnd fun y hy => ?_
  refine (bent_ok 8 84 4 17 y hy (by omega) (by omega) (by omega)).bnd fun z hz => ?_
  have c : vals.length + 1 ≤ lim := by unfold lim; omega
  simp [add_lst, c]
  refine (forL_okJ (fun ss => ss = st a (vv (eC n B)) c4 c5 c6 (vv (eN ps)) (vv (eR ps.length mk)) c9 c10 (vv T) c12 .dead c14 (vv (.list vals))) ?_ rfl).mono fun o ⟨ss', e1, e2⟩ => by rw [e1, e2]
  intro x hx ss e
  subst e
  have hxv : Vl 172 6 18 x := by
    rcases List.mem_append.1 hx with q | q
    · exact hv x q
    · rw [List.mem_singleton] at q; rw [q]; exact hz
  obtain ⟨r, j1, j2, j3⟩ := judge_fault (w := 0) (mk := mk) (show n ≤ 998 by omega) hB hP (hxv.mono (show 172 ≤ 1000 by omega) (Nat.le_refl _) (Nat.le_refl _))
  obtain ⟨s1, s2⟩ := vl_show j3 (by omega) (by omega) (by omega)
  obtain ⟨s3, s4⟩ := vl_show hxv (by omega) (by omega) (by omega)
  simp [lp13_B, lp13_0, lp13_1, s3, j1, j2, s1, ne_same s2, ne_same s4]
  exact .ret rfl
theorem lp14_ok {a c4 c6 c7 c8 c9 c10 c11 c12 c14 c15 : Slot} {n : Nat} {B : List Nat} (hn : n ≤ 16) (hB : Base n B) :
    lp14 (st a (vv (eC n B)) c4 (vv (.str (eC n B).shown)) c6 c7 c8 c9 c10 c11 c12 .dead c14 c15) = ret (.nx (st a (vv (eC n B)) c4 (vv (.str (eC n B).shown)) c6 c7 c8 c9 c10 c11 c12 .dead c14 c15)) := by
  have hl := hB.len
  obtain ⟨s1, s2⟩ := vl_show (vl_eC (n := n) (B := B) hn (by omega)) (by omega) (by omega) (by omega)
  simp [lp14, s1, ne_same s2]
theorem lpB_ok {i : Nat} (hi : i < 5) : Ok (lpB (st (vv (.int (i : Nat))) .dead .dead .dead .dead .dead .dead .dead .dead .dead .dead .dead .dead .dead)) fun o => ∃ x2 x3 x4 x5 x6 x7 x8 x9 x10 x11 x12 x13 x14 x15, o = .nx (st x2 x3 x4 x5 x6 x7 x8 x9 x10 x11 x12 x13 x14 x15) := by
  unfold lpB
  refine Ok.seq (lp0_ok hi) fun ss ⟨n, B, h1, h2, hB, e⟩ => ?_
  subst e
  refine Ok.seq (lp1_ok h2 hB) fun ss ⟨v, hv, e⟩ => ?_
  subst e
  refine Ok.seq (lp2_ok h1 (by omega)) fun ss ⟨ps, hP, e⟩ => ?_
  subst e
  refine Ok.seq (lp3_ok (by omega) hP) fun ss ⟨mk, hm, e⟩ => ?_
  subst e
  refine Ok.seq (P := fun ss => ss = _) (.eq (lp4_ok h2 hB hP) ⟨_, rfl, rfl⟩) fun ss e => ?_
  subst e
  obtain ⟨b, hb, hb2⟩ := there_ok h2 hB hP hm
  refine Ok.seq (P := fun ss => ss = _) (.eq (hb2 _ _ _ _ _) ⟨_, rfl, rfl⟩) fun ss e => ?_
  subst e
  obtain ⟨b', T, hb', hT⟩ := told_ok h2 hB hP hm
  have ebb : b' = b := by rw [Bool.eq_iff_iff, hb, hb']
  subst ebb
  have hsh : ∃ t x, okV 16 (.str t) = true ∧ Vl 30 1 16 x ∧ T = .tuple [.str t, x] := by
    obtain ⟨x, hx, e⟩ := hT.sh
    cases b' with
    | true => exact ⟨_, x, ok_row, hx, e⟩
    | false => exact ⟨_, x, ok_non, hx, e⟩
  refine Ok.seq (P := fun ss => ss = _) (.eq (lp6_ok hT) ⟨_, rfl, rfl⟩) fun ss e => ?_
  subst e
  refine Ok.seq (P := fun ss => ss = _) (.eq (lp7_ok hT) ⟨_, rfl, rfl⟩) fun ss e => ?_
  subst e
  refine Ok.seq (P := fun ss => ss = _) (.eq lp8_ok ⟨_, rfl, rfl⟩) fun ss e => ?_
  subst e
  have hBl := hB.len
  refine Ok.seq (P := fun ss => ss = _) (.eq (lp9_ok (by omega)) ⟨_, rfl, rfl⟩) fun ss e => ?_
  subst e
  refine Ok.seq (P := fun ss => ss = _) (.eq (lp10_ok h2 hB hP hT) ⟨_, rfl, rfl⟩) fun ss e => ?_
  subst e
  refine Ok.seq (lp11_ok h2 hB hT.vl) fun ss ⟨own, ho, hown, e⟩ => ?_
  subst e
  refine Ok.seq (lp12_ok ho hown hT.vl hsh) fun ss ⟨vals, hl, hvals, e⟩ => ?_
  subst e
  refine Ok.seq (lp13_ok h2 hB hP hl hvals hT.vl) fun ss e => ?_
  subst e
  refine Ok.seq (P := fun ss => ss = _) (.eq (lp14_ok h2 hB) ⟨_, rfl, rfl⟩) fun ss e => ?_
  subst e
  exact .ret ⟨_, _, _, _, _, _, _, _, _, _, _, _, _, _, rfl⟩
end K75
end

section
set_option linter.all false
set_option Elab.async false
set_option maxRecDepth 100000
namespace K75
open PySem hiding ret
open Ev
open Gf (sp lo rdc tstep Rd Eq2 Tri told fv dot par Inc S clr lstep Asc LInv av pv)
abbrev L0 : Slots := st .dead .dead .dead .dead .dead .dead .dead .dead .dead .dead .dead .dead .dead .dead
theorem le0_ok : Ok (le0 L0) fun o => ∃ ss', o = .nx ss' ∧ ss' = L0 := by
  have hr5 : rngM (ret (.int 0)) (ret (.int 5)) = ret ((List.range 5).map fun i => .int (i : Nat)) := rngM_nat (n := 5) (by decide)
  unfold le0
  rw [ev_forS, ev_rngL, ev_cst, ev_cst, hr5, bnd_ret]
  refine forL_okJ (fun ss => ss = L0) ?_ rfl
  intro x hx ss e
  subst e
  obtain ⟨i, hi, rfl⟩ := List.mem_map.1 hx
  have hi5 := List.mem_range.1 hi
  simp
  refine (lpB_ok hi5).bnd fun o ⟨x2, x3, x4, x5, x6, x7, x8, x9, x10, x11, x12, x13, x14, x15, e⟩ => ?_
  subst e
  simp
  exact .ret rfl
theorem le1_ok : le1 L0 = ret (.nx (st .dead (vv (eC 4 [3, 6])) .dead .dead .dead .dead .dead .dead .dead .dead .dead .dead .dead .dead)) := by
  simp [le1]
  rfl
def bm : Base 4 [3, 6] := ⟨by decide, rfl⟩
theorem c1 : F_marks_count [.vw 0 (eC 4 [3, 6]), .vw 0 (eN [0, 1]), .vw 0 (eR 2 3)] = ret (.int 1) := by
  have h : Plc 4 [0, 1] := ⟨by decide, by decide⟩
  obtain ⟨b, T, hb, hT⟩ := told_ok (mk := 3) (by omega) bm h (by decide)
  have e := count_ev (by omega) bm h hT
  have : b = true := hb.2 (by
    show sp [3, 2] 3
    unfold Gf.sp; unfold Gf.sp; unfold Gf.sp
    decide)
  subst this
  have hc : cnt true [3, 6] [0, 1] = 1 := rfl
  rw [hc] at e
  exact e
theorem c2 : F_marks_count [.vw 0 (eC 4 [3, 6]), .vw 0 (eN [3]), .vw 0 (eR 1 1)] = ret (.int 0) := by
  have h : Plc 4 [3] := ⟨by decide, by decide⟩
  obtain ⟨b, T, hb, hT⟩ := told_ok (mk := 1) (by omega) bm h (by decide)
  have e := count_ev (by omega) bm h hT
  have : b = false := by
    cases b with
    | false => rfl
    | true =>
      have : sp [0, 0] 1 := hb.1 rfl
      unfold Gf.sp at this; unfold Gf.sp at this; unfold Gf.sp at this
      revert this
      decide
  subst this
  have hc : cnt false [3, 6] [3] = 0 := rfl
  rw [hc] at e
  exact e
theorem c3 : F_judge_marks [.vw 0 (eC 4 [3, 6]), .vw 0 (eN [3]), .vw 0 (eR 1 1), .vw 0 (.tuple [.str "none", eR 4 8])] = ret .none := by
  have h : Plc 4 [3] := ⟨by decide, by decide⟩
  have e := judge_none (mk := 1) (f := 8) (B := [3, 6]) (by omega) (by simp) h (isRow_eR 4 8)
  have hc : noneR 4 1 [3, 6] [3] 8 = .none := rfl
  rw [hc] at e
  exact e
theorem le2_ok : le2 (st .dead (vv (eC 4 [3, 6])) .dead .dead .dead .dead .dead .dead .dead .dead .dead .dead .dead .dead) = ret (.nx (st .dead (vv (eC 4 [3, 6])) .dead .dead .dead .dead .dead .dead .dead (vv (.list [.int 1, .int 0, .none])) .dead .dead .dead .dead)) := by
  have q1 : (.tuple [.int 0, .int 1] : D) = eN [0, 1] := rfl
  have q2 : (.tuple [.int 1, .int 1] : D) = eR 2 3 := rfl
  have q3 : (.tuple [.int 3] : D) = eN [3] := rfl
  have q4 : (.tuple [.int 1] : D) = eR 1 1 := rfl
  have q5 : (.tuple [.int 0, .int 0, .int 0, .int 1] : D) = eR 4 8 := rfl
  have e1 := c1
  have e2 := c2
  have e3 := c3
  generalize eC 4 [3, 6] = C at *
  rw [← q1, ← q2] at e1
  rw [← q3, ← q4] at e2
  rw [← q3, ← q4, ← q5] at e3
  simp [le2, e1, e2, e3]
theorem le3_ok {c : Slot} : le3 (st .dead c .dead .dead .dead .dead .dead .dead .dead (vv (.list [.int 1, .int 0, .none])) .dead .dead .dead .dead) = ret (.rt (.bool true)) := by
  have vn : Vl 0 0 0 .none := ⟨by simp [PyData.bulk], by simp [PyData.depth], rfl⟩
  have v0 : Vl 0 0 1 (.int 0) := vl_int (by decide)
  have v1 : Vl 0 0 1 (.int 1) := vl_int (by decide)
  have vl : Vl 10 5 16 (.list [.int 1, .int 0, .none]) := (VlL.lst (VlL.cons v1 (VlL.cons v0 (VlL.one (vn.mono (Nat.le_refl _) (Nat.le_refl _) (show 0 ≤ 1 by omega)))))).mono (by omega) (by omega) (by omega)
  obtain ⟨s1, s2⟩ := vl_show vl (by omega) (by omega) (by omega)
  simp [le3, s1, eq_same s2]
theorem law_holds : ∀ s0 : Src, s0.cells.length ≤ 63 → ∃ s', b_law (.dead :: .src :: List.replicate 16 .dead) s0 = some (.rt (.bool true), s') := by
  have h : Ok (b_law L0) fun o => o = .rt (.bool true) := by
    rw [law_eq]
    refine Ok.seq le0_ok fun ss e => ?_
    subst e
    refine Ok.seq (P := fun ss => ss = _) (.eq le1_ok ⟨_, rfl, rfl⟩) fun ss e => ?_
    subst e
    refine Ok.seq (P := fun ss => ss = _) (.eq le2_ok ⟨_, rfl, rfl⟩) fun ss e => ?_
    subst e
    rw [ev_seq, le3_ok]
    exact .ret rfl
  intro s0 hs
  obtain ⟨o, s', e, _, ho⟩ := h s0 hs
  subst ho
  exact ⟨s', e⟩
end K75
end

set_option linter.all false
set_option Elab.async false
set_option maxRecDepth 100000
set_option maxHeartbeats 4000000
namespace K75
open PySem PyProof.Rows L2 Ev
section
variable {P : Program} {w : World} {K : PySem.W.Frag} {mg : Str → Option Value}
theorem law_ok (T : Txt K mg) (hfb : ∀ s0 : Src, s0.cells.length ≤ 63 → ∃ s', b_law (.dead :: .src :: List.replicate 16 .dead) s0 = some (.rt (.bool true), s')) : LawOk P w K mg T.a_law := by
  refine ⟨11, 16, T.d_law, s_law, _, _, ["script", "source", "lap", "code", "n", "kept", "some", "places", "marks", "seen", "is_there", "told", "due", "turn", "own", "values", "value", "shown"], b_law, ⟨rfl, by decide, by decide⟩, T.f_law, sc_law, rfl, fun s u => by obtain ⟨oc, od, kV, doc, pm, an, cdv, ct, osl, e, _⟩ := T.f_law.ex; rw [e]; exact .of_eq rfl, rfl, fun base cdv s H hK hNs sm hr hgd => ?_, hfb⟩
  have S := sc_law
  have hu := hr.units
  have hu5 := u65 hr
  refine ⟨ps_set (i := 1) S.nd rfl (Or.inr rfl) (pe_call (ok__law_source T) (hr.mono (by omega)) (by rfl) T.m__law_source T.f__law_source.kp T.b__law_source .nil pass0 (pa_cons (pv 0) pa_nil)), ?_⟩
  exact (show SB _ _ b_law from (sb_cons (ss_for .never rfl (si_r1 (bb := true) (n := 0) (m := 0) (by rfl) T.n_range se_int) (gt_name S.nd rfl (Or.inl rfl)) (sb_cons (ss_set S.nd rfl (Or.inl rfl) (se_call (ok__law_code T) (hr.mono (by omega)) (by rfl) T.m__law_code T.f__law_code.kp T.b__law_code (sa_src (pv 1) (sa_vw (se_ix (m := 0) (SE.up (n := 0) (SF.se (sf_lst (sl_cons se_int (sl_cons se_int (sl_cons se_int (sl_cons se_int (sl_cons se_int sl_nil))))))) (by decide)) (se_rd (pv 2))) sa_nil)))) (sb_cons (ss_par3 rfl S.nd rfl rfl rfl (by decide) (by decide) (by decide) rfl rfl rfl (sw_vw (se_ix (m := 0) (SE.up (n := 0) (se_rd (pv 3)) (by decide)) se_int) (sw_vw (se_b1 (m := 0) (c_repr hgd hu sm) (by rfl) T.n_repr bt_repr (se_rd (pv 3))) (sw_vw (se_call (ok__law_some_row T) (hr.mono (by omega)) (by rfl) T.m__law_some_row T.f__law_some_row.kp T.b__law_some_row (sa_src (pv 1) (sa_vw (se_rd (pv 3)) sa_nil))) sw_nil))) rfl) (sb_cons (ss_set S.nd rfl (Or.inl rfl) (se_if (st_cmp (m := 0) (o_eq hu) (se_call (ok__law_pick T) (hr.mono (by omega)) (by rfl) T.m__law_pick T.f__law_pick.kp T.b__law_pick (sa_src (pv 1) (sa_vw se_int sa_nil))) se_int rfl) (se_tup sl_nil) (se_call (ok__law_places T) (hr.mono (by omega)) (by rfl) T.m__law_places T.f__law_places.kp T.b__law_places (sa_src (pv 1) (sa_vw (se_rd (pv 4)) sa_nil))))) (sb_cons (ss_set S.nd rfl (Or.inl rfl) (se_call (ok__law_at T) (hr.mono (by omega)) (by rfl) T.m__law_at T.f__law_at.kp T.b__law_at (sa_vw (se_if (st_cmp (m := 0) (o_eq hu) (se_call (ok__law_pick T) (hr.mono (by omega)) (by rfl) T.m__law_pick T.f__law_pick.kp T.b__law_pick (sa_src (pv 1) (sa_vw se_int sa_nil))) se_int rfl) (se_rd (pv 6)) (se_call (ok__law_row T) (hr.mono (by omega)) (by rfl) T.m__law_row T.f__law_row.kp T.b__law_row (sa_src (pv 1) (sa_vw (se_rd (pv 4)) sa_nil)))) (sa_vw (se_rd (pv 7)) sa_nil)))) (sb_cons (ss_set S.nd rfl (Or.inl rfl) (se_if (st_cmp (m := 0) (o_ne hu) (se_rd (pv 7)) (se_tup sl_nil) rfl) (se_call (ok__law_seen T) (hr.mono (by omega)) (by rfl) T.m__law_seen T.f__law_seen.kp T.b__law_seen (sa_vw (se_rd (pv 3)) (sa_vw (se_rd (pv 7)) sa_nil))) (se_tup (sl_cons se_int (sl_cons (se_tup sl_nil) sl_nil))))) (sb_cons (ss_set S.nd rfl (Or.inl rfl) (se_or (m := 0) (se_cmp (m := 0) (o_eq hu) (se_rd (pv 7)) (se_tup sl_nil) rfl) (se_one (se_call (ok__law_has T) (hr.mono (by omega)) (by rfl) T.m__law_has T.f__law_has.kp T.b__law_has (sa_vw (se_rd (pv 9)) (sa_vw (se_rd (pv 8)) sa_nil)))))) (sb_cons (ss_set S.nd rfl (Or.inr rfl) (se_call (ok_marks_paper T) (hr.mono (by omega)) (by rfl) T.m_marks_paper T.f_marks_paper.kp T.b_marks_paper (sa_vw (se_rd (pv 3)) (sa_vw (se_rd (pv 7)) (sa_vw (se_rd (pv 8)) sa_nil))))) (sb_cons (ss_if (st_pw (st_or (st_cmp (m := 0) o_notN (se_call (ok__law_fault T) (hr.mono (by omega)) (by rfl) T.m__law_fault T.f__law_fault.kp T.b__law_fault (sa_vw (se_rd (pv 3)) (sa_vw (se_rd (pv 7)) (sa_vw (se_rd (pv 8)) (sa_vw (se_rd (pv 11)) sa_nil))))) se_non rfl) (st_or1 (st_cmp (m := 0) (o_ne hu) (se_ix (m := 0) (SE.up (n := 0) (se_rd (pv 11)) (by decide)) se_int) (se_ix (m := 0) (SE.up (n := 0) (SF.se (sf_lst (sl_cons se_str (sl_cons se_str sl_nil)))) (by decide)) (se_t1 (m := 0) c_int (by rfl) T.n_int bt_int (se_rd (pv 10)))) rfl)))) (sb_cons (ss_ret se_bl) sb_nil) sb_nil) (sb_cons (ss_set S.nd rfl (Or.inl rfl) se_int) (sb_cons (ss_for .never rfl (si_r1 (bb := true) (n := 0) (m := 0) (by rfl) T.n_range (se_bin (m := 0) o_sub (se_b1 (m := 0) c_len (by rfl) T.n_len bt_len (se_ix (m := 0) (SE.up (n := 0) (se_rd (pv 3)) (by decide)) se_int)) (se_b1 (m := 0) c_len (by rfl) T.n_len bt_len (se_ix (m := 0) (SE.up (n := 0) (se_rd (pv 9)) (by decide)) se_int)))) (gt_name S.nd rfl (Or.inl rfl)) (sb_cons (ss_set S.nd rfl (Or.inl rfl) (se_bin (m := 1) o_mul (SE.up (n := 0) (se_rd (pv 12)) (by decide)) se_int)) sb_nil)) (sb_cons (ss_if (st_pw (st_or (st_cmp (m := 0) (o_ne hu) (se_b1 (m := 0) (c_repr hgd hu sm) (by rfl) T.n_repr bt_repr (se_call (ok_marks_count T) (hr.mono (by omega)) (by rfl) T.m_marks_count T.f_marks_count.kp T.b_marks_count (sa_vw (se_rd (pv 3)) (sa_vw (se_rd (pv 7)) (sa_vw (se_rd (pv 8)) sa_nil))))) (se_b1 (m := 0) (c_repr hgd hu sm) (by rfl) T.n_repr bt_repr (se_if (st_tru (m := 0) (se_rd (pv 10))) (se_rd (pv 12)) se_int)) rfl) (st_or1 (st_cmp (m := 0) (o_ne hu) (se_b1 (m := 0) (c_repr hgd hu sm) (by rfl) T.n_repr bt_repr (se_call (ok_marks_paper T) (hr.mono (by omega)) (by rfl) T.m_marks_paper T.f_marks_paper.kp T.b_marks_paper (sa_vw (se_rd (pv 3)) (sa_vw (se_rd (pv 7)) (sa_vw (se_rd (pv 8)) sa_nil))))) (se_b1 (m := 0) (c_repr hgd hu sm) (by rfl) T.n_repr bt_repr (se_rd (pv 11))) rfl)))) (sb_cons (ss_ret se_bl) sb_nil) sb_nil) (sb_cons (ss_set S.nd rfl (Or.inr rfl) (SF.se (sf_lst (sl_cons (se_rd (pv 11)) (sl_cons (se_tup (sl_cons se_str (sl_cons (se_rd (pv 6)) sl_nil))) (sl_cons (se_tup (sl_cons se_str (sl_cons (se_call (ok__law_some_row T) (hr.mono (by omega)) (by rfl) T.m__law_some_row T.f__law_some_row.kp T.b__law_some_row (sa_src (pv 1) (sa_vw (se_call (ok__law_other T) (hr.mono (by omega)) (by rfl) T.m__law_other T.f__law_other.kp T.b__law_other (sa_vw (se_rd (pv 3)) sa_nil)) sa_nil))) sl_nil))) (sl_cons (se_tup (sl_cons se_str (sl_cons (se_call (ok__law_row T) (hr.mono (by omega)) (by rfl) T.m__law_row T.f__law_row.kp T.b__law_row (sa_src (pv 1) (sa_vw (se_rd (pv 4)) sa_nil))) sl_nil))) (sl_cons (se_tup (sl_cons se_str (sl_cons (se_call (ok__law_row T) (hr.mono (by omega)) (by rfl) T.m__law_row T.f__law_row.kp T.b__law_row (sa_src (pv 1) (sa_vw (se_rd (pv 4)) sa_nil))) sl_nil))) sl_nil)))))))) (sb_cons (ss_set S.nd rfl (Or.inl rfl) (se_bin (m := 1) o_add (se_bin (m := 1) o_add (SE.up (n := 0) (se_rd (pv 14)) (by decide)) (SE.up (n := 0) (SF.se (sf_lc (own := [("turn", 13)]) rfl S.nd (si_r1 (bb := false) (n := 0) (m := 0) (by rfl) T.n_range se_int) (blkOk_by (show blkC ["script", "source", "lap", "code", "n", "kept", "some", "places", "marks", "seen", "is_there", "told", "due", "turn", "own", "values", "value", "shown"] (defScope s_law) _ [("turn", 13)] = true from by decide +kernel)) (fun _ _ _ _ _ => (gt_name S.nd rfl (Or.inl rfl))) (fun _ _ _ _ _ => sts_nil) (fun _ _ _ _ _ => (se_call (ok__law_bent T 8) (hr.mono (by omega)) (by rfl) T.m__law_bent T.f__law_bent.kp T.b__law_bent (sa_src (pv 1) (sa_vw (se_call (ok__law_of T) (hr.mono (by omega)) (by rfl) T.m__law_of T.f__law_of.kp T.b__law_of (sa_src (pv 1) (sa_vw (se_bin (m := 1) o_add (SE.up (n := 0) (se_rd (pv 14)) (by decide)) (se_bin (m := 1) o_mul (SE.up (n := 0) (SF.se (sf_lst (sl_cons (se_rd (pv 11)) sl_nil))) (by decide)) se_int)) sa_nil))) sa_nil)))) (by decide))) (by decide))) (SE.up (n := 0) (SF.se (sf_lst (sl_cons se_non (sl_cons (se_tup sl_nil) (sl_cons (se_ix (m := 0) (SE.up (n := 0) (se_rd (pv 11)) (by decide)) se_int) (sl_cons se_str (sl_cons (SF.se (sf_t1 (m := 1) (c_lst rfl) (by rfl) T.n_list bt_list (SE.up (n := 0) (se_rd (pv 11)) (by decide)))) sl_nil))))))) (by decide)))) (sb_cons (ss_for .never rfl (si_seq (bb := true) (n := 0) (SE.sv0 (se_bin (m := 1) o_add (SE.up (n := 0) (se_rd (pv 15)) (by decide)) (SE.up (n := 0) (SF.se (sf_lst (sl_cons (se_call (ok__law_bent T 8) (hr.mono (by omega)) (by rfl) T.m__law_bent T.f__law_bent.kp T.b__law_bent (sa_src (pv 1) (sa_vw (se_call (ok__law_bent T 8) (hr.mono (by omega)) (by rfl) T.m__law_bent T.f__law_bent.kp T.b__law_bent (sa_src (pv 1) (sa_vw (se_rd (pv 11)) sa_nil))) sa_nil))) sl_nil))) (by decide))))) (gt_name S.nd rfl (Or.inl rfl)) (sb_cons (ss_set S.nd rfl (Or.inl rfl) (se_b1 (m := 0) (c_repr hgd hu sm) (by rfl) T.n_repr bt_repr (se_rd (pv 16)))) (sb_cons (ss_if (st_pw (st_or (st_cmp (m := 0) (o_ne hu) (se_b1 (m := 0) (c_repr hgd hu sm) (by rfl) T.n_repr bt_repr (se_call (ok_judge_marks T) (hr.mono (by omega)) (by rfl) T.m_judge_marks T.f_judge_marks.kp T.b_judge_marks (sa_vw (se_rd (pv 3)) (sa_vw (se_rd (pv 7)) (sa_vw (se_rd (pv 8)) (sa_vw (se_rd (pv 16)) sa_nil)))))) (se_b1 (m := 0) (c_repr hgd hu sm) (by rfl) T.n_repr bt_repr (se_call (ok__law_fault T) (hr.mono (by omega)) (by rfl) T.m__law_fault T.f__law_fault.kp T.b__law_fault (sa_vw (se_rd (pv 3)) (sa_vw (se_rd (pv 7)) (sa_vw (se_rd (pv 8)) (sa_vw (se_rd (pv 16)) sa_nil)))))) rfl) (st_or1 (st_cmp (m := 0) (o_ne hu) (se_b1 (m := 0) (c_repr hgd hu sm) (by rfl) T.n_repr bt_repr (se_rd (pv 16))) (se_rd (pv 17)) rfl)))) (sb_cons (ss_ret se_bl) sb_nil) sb_nil) sb_nil))) (sb_cons (ss_if (st_cmp (m := 0) (o_ne hu) (se_b1 (m := 0) (c_repr hgd hu sm) (by rfl) T.n_repr bt_repr (se_rd (pv 3))) (se_rd (pv 5)) rfl) (sb_cons (ss_ret se_bl) sb_nil) sb_nil) sb_nil)))))))))))))))) (sb_cons (ss_set S.nd rfl (Or.inl rfl) (se_tup (sl_cons se_int (sl_cons (se_tup (sl_cons (se_tup (sl_cons se_int (sl_cons se_int (sl_cons se_int (sl_cons se_int sl_nil))))) (sl_cons (se_tup (sl_cons se_int (sl_cons se_int (sl_cons se_int (sl_cons se_int sl_nil))))) sl_nil))) sl_nil)))) (sb_cons (ss_set S.nd rfl (Or.inr rfl) (SF.se (sf_lst (sl_cons (se_call (ok_marks_count T) (hr.mono (by omega)) (by rfl) T.m_marks_count T.f_marks_count.kp T.b_marks_count (sa_vw (se_rd (pv 3)) (sa_vw (se_tup (sl_cons se_int (sl_cons se_int sl_nil))) (sa_vw (se_tup (sl_cons se_int (sl_cons se_int sl_nil))) sa_nil)))) (sl_cons (se_call (ok_marks_count T) (hr.mono (by omega)) (by rfl) T.m_marks_count T.f_marks_count.kp T.b_marks_count (sa_vw (se_rd (pv 3)) (sa_vw (se_tup (sl_cons se_int sl_nil)) (sa_vw (se_tup (sl_cons se_int sl_nil)) sa_nil)))) (sl_cons (se_call (ok_judge_marks T) (hr.mono (by omega)) (by rfl) T.m_judge_marks T.f_judge_marks.kp T.b_judge_marks (sa_vw (se_rd (pv 3)) (sa_vw (se_tup (sl_cons se_int sl_nil)) (sa_vw (se_tup (sl_cons se_int sl_nil)) (sa_vw (se_tup (sl_cons se_str (sl_cons (se_tup (sl_cons se_int (sl_cons se_int (sl_cons se_int (sl_cons se_int sl_nil))))) sl_nil))) sa_nil))))) sl_nil)))))) (sb_cons (ss_ret (se_cmp (m := 0) (o_eq hu) (se_b1 (m := 0) (c_repr hgd hu sm) (by rfl) T.n_repr bt_repr (se_rd (pv 11))) (se_b1 (m := 0) (c_repr hgd hu sm) (by rfl) T.n_repr bt_repr (SF.se (sf_lst (sl_cons se_int (sl_cons se_int (sl_cons se_non sl_nil)))))) rfl)) sb_nil)))))
end
theorem all_mk {l : PySem.W.OpenLaw} {w : World} {K : PySem.W.Frag} {h : PySem.Heap} {mg : Str → Option Value} {fa : Addr} (X : K.In h) (G : h.Ns mainGlobals mg) (hfa : mg "law" = some (.ref fa))
    (hfb : ∀ s0 : Src, s0.cells.length ≤ 63 → ∃ s', b_law (.dead :: .src :: List.replicate 16 .dead) s0 = some (.rt (.bool true), s'))
    {f0 : Addr} {od0 an0 : Option Addr} {sl0 : Array (Option Value)} {oc0 kV0 dc0 pm0 cd0 ct0 : Value}
    {f1 : Addr} {od1 an1 : Option Addr} {sl1 : Array (Option Value)} {oc1 kV1 dc1 pm1 cd1 ct1 : Value}
    {f2 : Addr} {od2 an2 : Option Addr} {sl2 : Array (Option Value)} {oc2 kV2 dc2 pm2 cd2 ct2 : Value}
    {f3 : Addr} {od3 an3 : Option Addr} {sl3 : Array (Option Value)} {oc3 kV3 dc3 pm3 cd3 ct3 : Value}
    {f4 : Addr} {od4 an4 : Option Addr} {sl4 : Array (Option Value)} {oc4 kV4 dc4 pm4 cd4 ct4 : Value}
    {f5 : Addr} {od5 an5 : Option Addr} {sl5 : Array (Option Value)} {oc5 kV5 dc5 pm5 cd5 ct5 : Value}
    {f6 : Addr} {od6 an6 : Option Addr} {sl6 : Array (Option Value)} {oc6 kV6 dc6 pm6 cd6 ct6 : Value}
    {f7 : Addr} {od7 an7 : Option Addr} {sl7 : Array (Option Value)} {oc7 kV7 dc7 pm7 cd7 ct7 : Value}
    {f8 : Addr} {od8 an8 : Option Addr} {sl8 : Array (Option Value)} {oc8 kV8 dc8 pm8 cd8 ct8 : Value}
    {f9 : Addr} {od9 an9 : Option Addr} {sl9 : Array (Option Value)} {oc9 kV9 dc9 pm9 cd9 ct9 : Value}
    {f10 : Addr} {od10 an10 : Option Addr} {sl10 : Array (Option Value)} {oc10 kV10 dc10 pm10 cd10 ct10 : Value}
    {f11 : Addr} {od11 an11 : Option Addr} {sl11 : Array (Option Value)} {oc11 kV11 dc11 pm11 cd11 ct11 : Value}
    {f12 : Addr} {od12 an12 : Option Addr} {sl12 : Array (Option Value)} {oc12 kV12 dc12 pm12 cd12 ct12 : Value}
    {f13 : Addr} {od13 an13 : Option Addr} {sl13 : Array (Option Value)} {oc13 kV13 dc13 pm13 cd13 ct13 : Value}
    {f14 : Addr} {od14 an14 : Option Addr} {sl14 : Array (Option Value)} {oc14 kV14 dc14 pm14 cd14 ct14 : Value}
    {f15 : Addr} {od15 an15 : Option Addr} {sl15 : Array (Option Value)} {oc15 kV15 dc15 pm15 cd15 ct15 : Value}
    {f16 : Addr} {od16 an16 : Option Addr} {sl16 : Array (Option Value)} {oc16 kV16 dc16 pm16 cd16 ct16 : Value}
    {f17 : Addr} {od17 an17 : Option Addr} {sl17 : Array (Option Value)} {oc17 kV17 dc17 pm17 cd17 ct17 : Value}
    {f18 : Addr} {od18 an18 : Option Addr} {sl18 : Array (Option Value)} {oc18 kV18 dc18 pm18 cd18 ct18 : Value}
    {f19 : Addr} {od19 an19 : Option Addr} {sl19 : Array (Option Value)} {oc19 kV19 dc19 pm19 cd19 ct19 : Value}
    {f20 : Addr} {od20 an20 : Option Addr} {sl20 : Array (Option Value)} {oc20 kV20 dc20 pm20 cd20 ct20 : Value}
    {f21 : Addr} {od21 an21 : Option Addr} {sl21 : Array (Option Value)} {oc21 kV21 dc21 pm21 cd21 ct21 : Value}
    {f22 : Addr} {od22 an22 : Option Addr} {sl22 : Array (Option Value)} {oc22 kV22 dc22 pm22 cd22 ct22 : Value}
    {f23 : Addr} {od23 an23 : Option Addr} {sl23 : Array (Option Value)} {oc23 kV23 dc23 pm23 cd23 ct23 : Value}
    {f24 : Addr} {od24 an24 : Option Addr} {sl24 : Array (Option Value)} {oc24 kV24 dc24 pm24 cd24 ct24 : Value}
    {f25 : Addr} {od25 an25 : Option Addr} {sl25 : Array (Option Value)} {oc25 kV25 dc25 pm25 cd25 ct25 : Value}
    {f26 : Addr} {od26 an26 : Option Addr} {sl26 : Array (Option Value)} {oc26 kV26 dc26 pm26 cd26 ct26 : Value}
    {f27 : Addr} {od27 an27 : Option Addr} {sl27 : Array (Option Value)} {oc27 kV27 dc27 pm27 cd27 ct27 : Value}
    {f28 : Addr} {od28 an28 : Option Addr} {sl28 : Array (Option Value)} {oc28 kV28 dc28 pm28 cd28 ct28 : Value}
    {f29 : Addr} {od29 an29 : Option Addr} {sl29 : Array (Option Value)} {oc29 kV29 dc29 pm29 cd29 ct29 : Value}
    {f30 : Addr} {od30 an30 : Option Addr} {sl30 : Array (Option Value)} {oc30 kV30 dc30 pm30 cd30 ct30 : Value}
    {f31 : Addr} {od31 an31 : Option Addr} {sl31 : Array (Option Value)} {oc31 kV31 dc31 pm31 cd31 ct31 : Value}
    {f32 : Addr} {od32 an32 : Option Addr} {sl32 : Array (Option Value)} {oc32 kV32 dc32 pm32 cd32 ct32 : Value}
    {f33 : Addr} {od33 an33 : Option Addr} {sl33 : Array (Option Value)} {oc33 kV33 dc33 pm33 cd33 ct33 : Value}
    {f34 : Addr} {od34 an34 : Option Addr} {sl34 : Array (Option Value)} {oc34 kV34 dc34 pm34 cd34 ct34 : Value}
    {f35 : Addr} {od35 an35 : Option Addr} {sl35 : Array (Option Value)} {oc35 kV35 dc35 pm35 cd35 ct35 : Value}
    {f36 : Addr} {od36 an36 : Option Addr} {sl36 : Array (Option Value)} {oc36 kV36 dc36 pm36 cd36 ct36 : Value}
    {f37 : Addr} {od37 an37 : Option Addr} {sl37 : Array (Option Value)} {oc37 kV37 dc37 pm37 cd37 ct37 : Value}
    {f38 : Addr} {od38 an38 : Option Addr} {sl38 : Array (Option Value)} {oc38 kV38 dc38 pm38 cd38 ct38 : Value}
    {f39 : Addr} {od39 an39 : Option Addr} {sl39 : Array (Option Value)} {oc39 kV39 dc39 pm39 cd39 ct39 : Value}
    {f40 : Addr} {od40 an40 : Option Addr} {sl40 : Array (Option Value)} {oc40 kV40 dc40 pm40 cd40 ct40 : Value}
    {f41 : Addr} {od41 an41 : Option Addr} {sl41 : Array (Option Value)} {oc41 kV41 dc41 pm41 cd41 ct41 : Value}
    {f42 : Addr} {od42 an42 : Option Addr} {sl42 : Array (Option Value)} {oc42 kV42 dc42 pm42 cd42 ct42 : Value}
    (a0 : PySem.W.nsIn K mainGlobals "sum_of" = some (some (.ref f0)))
    (l0 : K.lookup f0 = some ⟨oc0, od0, .func (PySem.W.fnOf "sum_of" "sum_of" (defArgs s_sum_of) (defBody s_sum_of) (defScope s_sum_of) .none kV0 dc0 pm0 an0 cd0 ct0), sl0⟩)
    (c0 : PySem.W.codeIn K cd0 "sum_of" = true) (k0 : PySem.W.keepIn K (.ref f0) = true)
    (a1 : PySem.W.nsIn K mainGlobals "are_even" = some (some (.ref f1)))
    (l1 : K.lookup f1 = some ⟨oc1, od1, .func (PySem.W.fnOf "are_even" "are_even" (defArgs s_are_even) (defBody s_are_even) (defScope s_are_even) .none kV1 dc1 pm1 an1 cd1 ct1), sl1⟩)
    (c1 : PySem.W.codeIn K cd1 "are_even" = true) (k1 : PySem.W.keepIn K (.ref f1) = true)
    (a2 : PySem.W.nsIn K mainGlobals "first_one" = some (some (.ref f2)))
    (l2 : K.lookup f2 = some ⟨oc2, od2, .func (PySem.W.fnOf "first_one" "first_one" (defArgs s_first_one) (defBody s_first_one) (defScope s_first_one) .none kV2 dc2 pm2 an2 cd2 ct2), sl2⟩)
    (c2 : PySem.W.codeIn K cd2 "first_one" = true) (k2 : PySem.W.keepIn K (.ref f2) = true)
    (a3 : PySem.W.nsIn K mainGlobals "told_rows" = some (some (.ref f3)))
    (l3 : K.lookup f3 = some ⟨oc3, od3, .func (PySem.W.fnOf "told_rows" "told_rows" (defArgs s_told_rows) (defBody s_told_rows) (defScope s_told_rows) .none kV3 dc3 pm3 an3 cd3 ct3), sl3⟩)
    (c3 : PySem.W.codeIn K cd3 "told_rows" = true) (k3 : PySem.W.keepIn K (.ref f3) = true)
    (a4 : PySem.W.nsIn K mainGlobals "sum_of_rows" = some (some (.ref f4)))
    (l4 : K.lookup f4 = some ⟨oc4, od4, .func (PySem.W.fnOf "sum_of_rows" "sum_of_rows" (defArgs s_sum_of_rows) (defBody s_sum_of_rows) (defScope s_sum_of_rows) .none kV4 dc4 pm4 an4 cd4 ct4), sl4⟩)
    (c4 : PySem.W.codeIn K cd4 "sum_of_rows" = true) (k4 : PySem.W.keepIn K (.ref f4) = true)
    (a5 : PySem.W.nsIn K mainGlobals "free_base" = some (some (.ref f5)))
    (l5 : K.lookup f5 = some ⟨oc5, od5, .func (PySem.W.fnOf "free_base" "free_base" (defArgs s_free_base) (defBody s_free_base) (defScope s_free_base) .none kV5 dc5 pm5 an5 cd5 ct5), sl5⟩)
    (c5 : PySem.W.codeIn K cd5 "free_base" = true) (k5 : PySem.W.keepIn K (.ref f5) = true)
    (a6 : PySem.W.nsIn K mainGlobals "has_row" = some (some (.ref f6)))
    (l6 : K.lookup f6 = some ⟨oc6, od6, .func (PySem.W.fnOf "has_row" "has_row" (defArgs s_has_row) (defBody s_has_row) (defScope s_has_row) .none kV6 dc6 pm6 an6 cd6 ct6), sl6⟩)
    (c6 : PySem.W.codeIn K cd6 "has_row" = true) (k6 : PySem.W.keepIn K (.ref f6) = true)
    (a7 : PySem.W.nsIn K mainGlobals "reduced" = some (some (.ref f7)))
    (l7 : K.lookup f7 = some ⟨oc7, od7, .func (PySem.W.fnOf "reduced" "reduced" (defArgs s_reduced) (defBody s_reduced) (defScope s_reduced) .none kV7 dc7 pm7 an7 cd7 ct7), sl7⟩)
    (c7 : PySem.W.codeIn K cd7 "reduced" = true) (k7 : PySem.W.keepIn K (.ref f7) = true)
    (a8 : PySem.W.nsIn K mainGlobals "lot_that_makes" = some (some (.ref f8)))
    (l8 : K.lookup f8 = some ⟨oc8, od8, .func (PySem.W.fnOf "lot_that_makes" "lot_that_makes" (defArgs s_lot_that_makes) (defBody s_lot_that_makes) (defScope s_lot_that_makes) .none kV8 dc8 pm8 an8 cd8 ct8), sl8⟩)
    (c8 : PySem.W.codeIn K cd8 "lot_that_makes" = true) (k8 : PySem.W.keepIn K (.ref f8) = true)
    (a9 : PySem.W.nsIn K mainGlobals "is_integer" = some (some (.ref f9)))
    (l9 : K.lookup f9 = some ⟨oc9, od9, .func (PySem.W.fnOf "is_integer" "is_integer" (defArgs s_is_integer) (defBody s_is_integer) (defScope s_is_integer) .none kV9 dc9 pm9 an9 cd9 ct9), sl9⟩)
    (c9 : PySem.W.codeIn K cd9 "is_integer" = true) (k9 : PySem.W.keepIn K (.ref f9) = true)
    (a10 : PySem.W.nsIn K mainGlobals "is_row" = some (some (.ref f10)))
    (l10 : K.lookup f10 = some ⟨oc10, od10, .func (PySem.W.fnOf "is_row" "is_row" (defArgs s_is_row) (defBody s_is_row) (defScope s_is_row) .none kV10 dc10 pm10 an10 cd10 ct10), sl10⟩)
    (c10 : PySem.W.codeIn K cd10 "is_row" = true) (k10 : PySem.W.keepIn K (.ref f10) = true)
    (a11 : PySem.W.nsIn K mainGlobals "is_worded" = some (some (.ref f11)))
    (l11 : K.lookup f11 = some ⟨oc11, od11, .func (PySem.W.fnOf "is_worded" "is_worded" (defArgs s_is_worded) (defBody s_is_worded) (defScope s_is_worded) .none kV11 dc11 pm11 an11 cd11 ct11), sl11⟩)
    (c11 : PySem.W.codeIn K cd11 "is_worded" = true) (k11 : PySem.W.keepIn K (.ref f11) = true)
    (a12 : PySem.W.nsIn K mainGlobals "first_odd" = some (some (.ref f12)))
    (l12 : K.lookup f12 = some ⟨oc12, od12, .func (PySem.W.fnOf "first_odd" "first_odd" (defArgs s_first_odd) (defBody s_first_odd) (defScope s_first_odd) .none kV12 dc12 pm12 an12 cd12 ct12), sl12⟩)
    (c12 : PySem.W.codeIn K cd12 "first_odd" = true) (k12 : PySem.W.keepIn K (.ref f12) = true)
    (a13 : PySem.W.nsIn K mainGlobals "marks_at" = some (some (.ref f13)))
    (l13 : K.lookup f13 = some ⟨oc13, od13, .func (PySem.W.fnOf "marks_at" "marks_at" (defArgs s_marks_at) (defBody s_marks_at) (defScope s_marks_at) .none kV13 dc13 pm13 an13 cd13 ct13), sl13⟩)
    (c13 : PySem.W.codeIn K cd13 "marks_at" = true) (k13 : PySem.W.keepIn K (.ref f13) = true)
    (a14 : PySem.W.nsIn K mainGlobals "seen_at" = some (some (.ref f14)))
    (l14 : K.lookup f14 = some ⟨oc14, od14, .func (PySem.W.fnOf "seen_at" "seen_at" (defArgs s_seen_at) (defBody s_seen_at) (defScope s_seen_at) .none kV14 dc14 pm14 an14 cd14 ct14), sl14⟩)
    (c14 : PySem.W.codeIn K cd14 "seen_at" = true) (k14 : PySem.W.keepIn K (.ref f14) = true)
    (a15 : PySem.W.nsIn K mainGlobals "rank_at" = some (some (.ref f15)))
    (l15 : K.lookup f15 = some ⟨oc15, od15, .func (PySem.W.fnOf "rank_at" "rank_at" (defArgs s_rank_at) (defBody s_rank_at) (defScope s_rank_at) .none kV15 dc15 pm15 an15 cd15 ct15), sl15⟩)
    (c15 : PySem.W.codeIn K cd15 "rank_at" = true) (k15 : PySem.W.keepIn K (.ref f15) = true)
    (a16 : PySem.W.nsIn K mainGlobals "marks_paper" = some (some (.ref f16)))
    (l16 : K.lookup f16 = some ⟨oc16, od16, .func (PySem.W.fnOf "marks_paper" "marks_paper" (defArgs s_marks_paper) (defBody s_marks_paper) (defScope s_marks_paper) .none kV16 dc16 pm16 an16 cd16 ct16), sl16⟩)
    (c16 : PySem.W.codeIn K cd16 "marks_paper" = true) (k16 : PySem.W.keepIn K (.ref f16) = true)
    (a17 : PySem.W.nsIn K mainGlobals "judge_marks" = some (some (.ref f17)))
    (l17 : K.lookup f17 = some ⟨oc17, od17, .func (PySem.W.fnOf "judge_marks" "judge_marks" (defArgs s_judge_marks) (defBody s_judge_marks) (defScope s_judge_marks) .none kV17 dc17 pm17 an17 cd17 ct17), sl17⟩)
    (c17 : PySem.W.codeIn K cd17 "judge_marks" = true) (k17 : PySem.W.keepIn K (.ref f17) = true)
    (a18 : PySem.W.nsIn K mainGlobals "marks_count" = some (some (.ref f18)))
    (l18 : K.lookup f18 = some ⟨oc18, od18, .func (PySem.W.fnOf "marks_count" "marks_count" (defArgs s_marks_count) (defBody s_marks_count) (defScope s_marks_count) .none kV18 dc18 pm18 an18 cd18 ct18), sl18⟩)
    (c18 : PySem.W.codeIn K cd18 "marks_count" = true) (k18 : PySem.W.keepIn K (.ref f18) = true)
    (a19 : PySem.W.nsIn K mainGlobals "_law_source" = some (some (.ref f19)))
    (l19 : K.lookup f19 = some ⟨oc19, od19, .func (PySem.W.fnOf "_law_source" "_law_source" (defArgs s__law_source) (defBody s__law_source) (defScope s__law_source) .none kV19 dc19 pm19 an19 cd19 ct19), sl19⟩)
    (c19 : PySem.W.codeIn K cd19 "_law_source" = true) (k19 : PySem.W.keepIn K (.ref f19) = true)
    (a20 : PySem.W.nsIn K mainGlobals "_law_pick" = some (some (.ref f20)))
    (l20 : K.lookup f20 = some ⟨oc20, od20, .func (PySem.W.fnOf "_law_pick" "_law_pick" (defArgs s__law_pick) (defBody s__law_pick) (defScope s__law_pick) .none kV20 dc20 pm20 an20 cd20 ct20), sl20⟩)
    (c20 : PySem.W.codeIn K cd20 "_law_pick" = true) (k20 : PySem.W.keepIn K (.ref f20) = true)
    (a21 : PySem.W.nsIn K mainGlobals "_law_of" = some (some (.ref f21)))
    (l21 : K.lookup f21 = some ⟨oc21, od21, .func (PySem.W.fnOf "_law_of" "_law_of" (defArgs s__law_of) (defBody s__law_of) (defScope s__law_of) .none kV21 dc21 pm21 an21 cd21 ct21), sl21⟩)
    (c21 : PySem.W.codeIn K cd21 "_law_of" = true) (k21 : PySem.W.keepIn K (.ref f21) = true)
    (a22 : PySem.W.nsIn K mainGlobals "_law_mixed" = some (some (.ref f22)))
    (l22 : K.lookup f22 = some ⟨oc22, od22, .func (PySem.W.fnOf "_law_mixed" "_law_mixed" (defArgs s__law_mixed) (defBody s__law_mixed) (defScope s__law_mixed) .none kV22 dc22 pm22 an22 cd22 ct22), sl22⟩)
    (c22 : PySem.W.codeIn K cd22 "_law_mixed" = true) (k22 : PySem.W.keepIn K (.ref f22) = true)
    (a23 : PySem.W.nsIn K mainGlobals "_law_sum" = some (some (.ref f23)))
    (l23 : K.lookup f23 = some ⟨oc23, od23, .func (PySem.W.fnOf "_law_sum" "_law_sum" (defArgs s__law_sum) (defBody s__law_sum) (defScope s__law_sum) .none kV23 dc23 pm23 an23 cd23 ct23), sl23⟩)
    (c23 : PySem.W.codeIn K cd23 "_law_sum" = true) (k23 : PySem.W.keepIn K (.ref f23) = true)
    (a24 : PySem.W.nsIn K mainGlobals "_law_told" = some (some (.ref f24)))
    (l24 : K.lookup f24 = some ⟨oc24, od24, .func (PySem.W.fnOf "_law_told" "_law_told" (defArgs s__law_told) (defBody s__law_told) (defScope s__law_told) .none kV24 dc24 pm24 an24 cd24 ct24), sl24⟩)
    (c24 : PySem.W.codeIn K cd24 "_law_told" = true) (k24 : PySem.W.keepIn K (.ref f24) = true)
    (a25 : PySem.W.nsIn K mainGlobals "_law_row" = some (some (.ref f25)))
    (l25 : K.lookup f25 = some ⟨oc25, od25, .func (PySem.W.fnOf "_law_row" "_law_row" (defArgs s__law_row) (defBody s__law_row) (defScope s__law_row) .none kV25 dc25 pm25 an25 cd25 ct25), sl25⟩)
    (c25 : PySem.W.codeIn K cd25 "_law_row" = true) (k25 : PySem.W.keepIn K (.ref f25) = true)
    (a26 : PySem.W.nsIn K mainGlobals "_law_base" = some (some (.ref f26)))
    (l26 : K.lookup f26 = some ⟨oc26, od26, .func (PySem.W.fnOf "_law_base" "_law_base" (defArgs s__law_base) (defBody s__law_base) (defScope s__law_base) .none kV26 dc26 pm26 an26 cd26 ct26), sl26⟩)
    (c26 : PySem.W.codeIn K cd26 "_law_base" = true) (k26 : PySem.W.keepIn K (.ref f26) = true)
    (a27 : PySem.W.nsIn K mainGlobals "_law_code" = some (some (.ref f27)))
    (l27 : K.lookup f27 = some ⟨oc27, od27, .func (PySem.W.fnOf "_law_code" "_law_code" (defArgs s__law_code) (defBody s__law_code) (defScope s__law_code) .none kV27 dc27 pm27 an27 cd27 ct27), sl27⟩)
    (c27 : PySem.W.codeIn K cd27 "_law_code" = true) (k27 : PySem.W.keepIn K (.ref f27) = true)
    (a28 : PySem.W.nsIn K mainGlobals "_law_some_row" = some (some (.ref f28)))
    (l28 : K.lookup f28 = some ⟨oc28, od28, .func (PySem.W.fnOf "_law_some_row" "_law_some_row" (defArgs s__law_some_row) (defBody s__law_some_row) (defScope s__law_some_row) .none kV28 dc28 pm28 an28 cd28 ct28), sl28⟩)
    (c28 : PySem.W.codeIn K cd28 "_law_some_row" = true) (k28 : PySem.W.keepIn K (.ref f28) = true)
    (a29 : PySem.W.nsIn K mainGlobals "_law_is_odd" = some (some (.ref f29)))
    (l29 : K.lookup f29 = some ⟨oc29, od29, .func (PySem.W.fnOf "_law_is_odd" "_law_is_odd" (defArgs s__law_is_odd) (defBody s__law_is_odd) (defScope s__law_is_odd) .none kV29 dc29 pm29 an29 cd29 ct29), sl29⟩)
    (c29 : PySem.W.codeIn K cd29 "_law_is_odd" = true) (k29 : PySem.W.keepIn K (.ref f29) = true)
    (a30 : PySem.W.nsIn K mainGlobals "_law_leading" = some (some (.ref f30)))
    (l30 : K.lookup f30 = some ⟨oc30, od30, .func (PySem.W.fnOf "_law_leading" "_law_leading" (defArgs s__law_leading) (defBody s__law_leading) (defScope s__law_leading) .none kV30 dc30 pm30 an30 cd30 ct30), sl30⟩)
    (c30 : PySem.W.codeIn K cd30 "_law_leading" = true) (k30 : PySem.W.keepIn K (.ref f30) = true)
    (a31 : PySem.W.nsIn K mainGlobals "_law_free" = some (some (.ref f31)))
    (l31 : K.lookup f31 = some ⟨oc31, od31, .func (PySem.W.fnOf "_law_free" "_law_free" (defArgs s__law_free) (defBody s__law_free) (defScope s__law_free) .none kV31 dc31 pm31 an31 cd31 ct31), sl31⟩)
    (c31 : PySem.W.codeIn K cd31 "_law_free" = true) (k31 : PySem.W.keepIn K (.ref f31) = true)
    (a32 : PySem.W.nsIn K mainGlobals "_law_other" = some (some (.ref f32)))
    (l32 : K.lookup f32 = some ⟨oc32, od32, .func (PySem.W.fnOf "_law_other" "_law_other" (defArgs s__law_other) (defBody s__law_other) (defScope s__law_other) .none kV32 dc32 pm32 an32 cd32 ct32), sl32⟩)
    (c32 : PySem.W.codeIn K cd32 "_law_other" = true) (k32 : PySem.W.keepIn K (.ref f32) = true)
    (a33 : PySem.W.nsIn K mainGlobals "_law_has" = some (some (.ref f33)))
    (l33 : K.lookup f33 = some ⟨oc33, od33, .func (PySem.W.fnOf "_law_has" "_law_has" (defArgs s__law_has) (defBody s__law_has) (defScope s__law_has) .none kV33 dc33 pm33 an33 cd33 ct33), sl33⟩)
    (c33 : PySem.W.codeIn K cd33 "_law_has" = true) (k33 : PySem.W.keepIn K (.ref f33) = true)
    (a34 : PySem.W.nsIn K mainGlobals "_law_number" = some (some (.ref f34)))
    (l34 : K.lookup f34 = some ⟨oc34, od34, .func (PySem.W.fnOf "_law_number" "_law_number" (defArgs s__law_number) (defBody s__law_number) (defScope s__law_number) .none kV34 dc34 pm34 an34 cd34 ct34), sl34⟩)
    (c34 : PySem.W.codeIn K cd34 "_law_number" = true) (k34 : PySem.W.keepIn K (.ref f34) = true)
    (a35 : PySem.W.nsIn K mainGlobals "_law_are_below" = some (some (.ref f35)))
    (l35 : K.lookup f35 = some ⟨oc35, od35, .func (PySem.W.fnOf "_law_are_below" "_law_are_below" (defArgs s__law_are_below) (defBody s__law_are_below) (defScope s__law_are_below) .none kV35 dc35 pm35 an35 cd35 ct35), sl35⟩)
    (c35 : PySem.W.codeIn K cd35 "_law_are_below" = true) (k35 : PySem.W.keepIn K (.ref f35) = true)
    (a36 : PySem.W.nsIn K mainGlobals "_law_is_row" = some (some (.ref f36)))
    (l36 : K.lookup f36 = some ⟨oc36, od36, .func (PySem.W.fnOf "_law_is_row" "_law_is_row" (defArgs s__law_is_row) (defBody s__law_is_row) (defScope s__law_is_row) .none kV36 dc36 pm36 an36 cd36 ct36), sl36⟩)
    (c36 : PySem.W.codeIn K cd36 "_law_is_row" = true) (k36 : PySem.W.keepIn K (.ref f36) = true)
    (a37 : PySem.W.nsIn K mainGlobals "_law_bent" = some (some (.ref f37)))
    (l37 : K.lookup f37 = some ⟨oc37, od37, .func (PySem.W.fnOf "_law_bent" "_law_bent" (defArgs s__law_bent) (defBody s__law_bent) (defScope s__law_bent) .none kV37 dc37 pm37 an37 cd37 ct37), sl37⟩)
    (c37 : PySem.W.codeIn K cd37 "_law_bent" = true) (k37 : PySem.W.keepIn K (.ref f37) = true)
    (a38 : PySem.W.nsIn K mainGlobals "_law_places" = some (some (.ref f38)))
    (l38 : K.lookup f38 = some ⟨oc38, od38, .func (PySem.W.fnOf "_law_places" "_law_places" (defArgs s__law_places) (defBody s__law_places) (defScope s__law_places) .none kV38 dc38 pm38 an38 cd38 ct38), sl38⟩)
    (c38 : PySem.W.codeIn K cd38 "_law_places" = true) (k38 : PySem.W.keepIn K (.ref f38) = true)
    (a39 : PySem.W.nsIn K mainGlobals "_law_at" = some (some (.ref f39)))
    (l39 : K.lookup f39 = some ⟨oc39, od39, .func (PySem.W.fnOf "_law_at" "_law_at" (defArgs s__law_at) (defBody s__law_at) (defScope s__law_at) .none kV39 dc39 pm39 an39 cd39 ct39), sl39⟩)
    (c39 : PySem.W.codeIn K cd39 "_law_at" = true) (k39 : PySem.W.keepIn K (.ref f39) = true)
    (a40 : PySem.W.nsIn K mainGlobals "_law_seen" = some (some (.ref f40)))
    (l40 : K.lookup f40 = some ⟨oc40, od40, .func (PySem.W.fnOf "_law_seen" "_law_seen" (defArgs s__law_seen) (defBody s__law_seen) (defScope s__law_seen) .none kV40 dc40 pm40 an40 cd40 ct40), sl40⟩)
    (c40 : PySem.W.codeIn K cd40 "_law_seen" = true) (k40 : PySem.W.keepIn K (.ref f40) = true)
    (a41 : PySem.W.nsIn K mainGlobals "_law_fault" = some (some (.ref f41)))
    (l41 : K.lookup f41 = some ⟨oc41, od41, .func (PySem.W.fnOf "_law_fault" "_law_fault" (defArgs s__law_fault) (defBody s__law_fault) (defScope s__law_fault) .none kV41 dc41 pm41 an41 cd41 ct41), sl41⟩)
    (c41 : PySem.W.codeIn K cd41 "_law_fault" = true) (k41 : PySem.W.keepIn K (.ref f41) = true)
    (a42 : PySem.W.nsIn K mainGlobals "law" = some (some (.ref f42)))
    (l42 : K.lookup f42 = some ⟨oc42, od42, .func (PySem.W.fnOf "law" "law" (defArgs s_law) (defBody s_law) (defScope s_law) .none kV42 dc42 pm42 an42 cd42 ct42), sl42⟩)
    (c42 : PySem.W.codeIn K cd42 "law" = true) (k42 : PySem.W.keepIn K (.ref f42) = true)
    (z_abs : PySem.W.nsIn K mainGlobals "abs" = some none)
    (z_all : PySem.W.nsIn K mainGlobals "all" = some none)
    (z_bool : PySem.W.nsIn K mainGlobals "bool" = some none)
    (z_enumerate : PySem.W.nsIn K mainGlobals "enumerate" = some none)
    (z_int : PySem.W.nsIn K mainGlobals "int" = some none)
    (z_isinstance : PySem.W.nsIn K mainGlobals "isinstance" = some none)
    (z_len : PySem.W.nsIn K mainGlobals "len" = some none)
    (z_list : PySem.W.nsIn K mainGlobals "list" = some none)
    (z_max : PySem.W.nsIn K mainGlobals "max" = some none)
    (z_range : PySem.W.nsIn K mainGlobals "range" = some none)
    (z_repr : PySem.W.nsIn K mainGlobals "repr" = some none)
    (z_sorted : PySem.W.nsIn K mainGlobals "sorted" = some none)
    (z_str : PySem.W.nsIn K mainGlobals "str" = some none)
    (z_sum : PySem.W.nsIn K mainGlobals "sum" = some none)
    (z_tuple : PySem.W.nsIn K mainGlobals "tuple" = some none)
    (z_zip : PySem.W.nsIn K mainGlobals "zip" = some none) : LawOk l.prog w K mg fa := by
  have e : fa = f42 := by
    have z := hfa.symm.trans (PySem.W.mg_of X G a42)
    exact Value.ref.inj (Option.some.inj z)
  have T : ∃ T : Txt K mg, T.a_law = f42 := ⟨{
    a_sum_of := f0, d_sum_of := _, f_sum_of := fun_mk l0 c0 k0, m_sum_of := PySem.W.mg_of X G a0, b_sum_of := ((fun_mk (st := s_sum_of) l0 c0 k0).binds (ps := ["one", "other"]) fun _ _ _ _ _ _ us hl => match us, hl with | [_, _], _ => rfl),
    a_are_even := f1, d_are_even := _, f_are_even := fun_mk l1 c1 k1, m_are_even := PySem.W.mg_of X G a1, b_are_even := ((fun_mk (st := s_are_even) l1 c1 k1).binds (ps := ["one", "other"]) fun _ _ _ _ _ _ us hl => match us, hl with | [_, _], _ => rfl),
    a_first_one := f2, d_first_one := _, f_first_one := fun_mk l2 c2 k2, m_first_one := PySem.W.mg_of X G a2, b_first_one := ((fun_mk (st := s_first_one) l2 c2 k2).binds (ps := ["row"]) fun _ _ _ _ _ _ us hl => match us, hl with | [_], _ => rfl),
    a_told_rows := f3, d_told_rows := _, f_told_rows := fun_mk l3 c3 k3, m_told_rows := PySem.W.mg_of X G a3, b_told_rows := ((fun_mk (st := s_told_rows) l3 c3 k3).binds (ps := ["rows"]) fun _ _ _ _ _ _ us hl => match us, hl with | [_], _ => rfl),
    a_sum_of_rows := f4, d_sum_of_rows := _, f_sum_of_rows := fun_mk l4 c4 k4, m_sum_of_rows := PySem.W.mg_of X G a4, b_sum_of_rows := ((fun_mk (st := s_sum_of_rows) l4 c4 k4).binds (ps := ["n", "rows"]) fun _ _ _ _ _ _ us hl => match us, hl with | [_, _], _ => rfl),
    a_free_base := f5, d_free_base := _, f_free_base := fun_mk l5 c5 k5, m_free_base := PySem.W.mg_of X G a5, b_free_base := ((fun_mk (st := s_free_base) l5 c5 k5).binds (ps := ["code"]) fun _ _ _ _ _ _ us hl => match us, hl with | [_], _ => rfl),
    a_has_row := f6, d_has_row := _, f_has_row := fun_mk l6 c6 k6, m_has_row := PySem.W.mg_of X G a6, b_has_row := ((fun_mk (st := s_has_row) l6 c6 k6).binds (ps := ["code", "row"]) fun _ _ _ _ _ _ us hl => match us, hl with | [_, _], _ => rfl),
    a_reduced := f7, d_reduced := _, f_reduced := fun_mk l7 c7 k7, m_reduced := PySem.W.mg_of X G a7, b_reduced := ((fun_mk (st := s_reduced) l7 c7 k7).binds (ps := ["pair", "found"]) fun _ _ _ _ _ _ us hl => match us, hl with | [_, _], _ => rfl),
    a_lot_that_makes := f8, d_lot_that_makes := _, f_lot_that_makes := fun_mk l8 c8 k8, m_lot_that_makes := PySem.W.mg_of X G a8, b_lot_that_makes := ((fun_mk (st := s_lot_that_makes) l8 c8 k8).binds (ps := ["rows", "row"]) fun _ _ _ _ _ _ us hl => match us, hl with | [_, _], _ => rfl),
    a_is_integer := f9, d_is_integer := _, f_is_integer := fun_mk l9 c9 k9, m_is_integer := PySem.W.mg_of X G a9, b_is_integer := ((fun_mk (st := s_is_integer) l9 c9 k9).binds (ps := ["value"]) fun _ _ _ _ _ _ us hl => match us, hl with | [_], _ => rfl),
    a_is_row := f10, d_is_row := _, f_is_row := fun_mk l10 c10 k10, m_is_row := PySem.W.mg_of X G a10, b_is_row := ((fun_mk (st := s_is_row) l10 c10 k10).binds (ps := ["n", "value"]) fun _ _ _ _ _ _ us hl => match us, hl with | [_, _], _ => rfl),
    a_is_worded := f11, d_is_worded := _, f_is_worded := fun_mk l11 c11 k11, m_is_worded := PySem.W.mg_of X G a11, b_is_worded := ((fun_mk (st := s_is_worded) l11 c11 k11).binds (ps := ["value", "words"]) fun _ _ _ _ _ _ us hl => match us, hl with | [_, _], _ => rfl),
    a_first_odd := f12, d_first_odd := _, f_first_odd := fun_mk l12 c12 k12, m_first_odd := PySem.W.mg_of X G a12, b_first_odd := ((fun_mk (st := s_first_odd) l12 c12 k12).binds (ps := ["base", "row"]) fun _ _ _ _ _ _ us hl => match us, hl with | [_, _], _ => rfl),
    a_marks_at := f13, d_marks_at := _, f_marks_at := fun_mk l13 c13 k13, m_marks_at := PySem.W.mg_of X G a13, b_marks_at := ((fun_mk (st := s_marks_at) l13 c13 k13).binds (ps := ["row", "places"]) fun _ _ _ _ _ _ us hl => match us, hl with | [_, _], _ => rfl),
    a_seen_at := f14, d_seen_at := _, f_seen_at := fun_mk l14 c14 k14, m_seen_at := PySem.W.mg_of X G a14, b_seen_at := ((fun_mk (st := s_seen_at) l14 c14 k14).binds (ps := ["code", "places"]) fun _ _ _ _ _ _ us hl => match us, hl with | [_, _], _ => rfl),
    a_rank_at := f15, d_rank_at := _, f_rank_at := fun_mk l15 c15 k15, m_rank_at := PySem.W.mg_of X G a15, b_rank_at := ((fun_mk (st := s_rank_at) l15 c15 k15).binds (ps := ["code", "places"]) fun _ _ _ _ _ _ us hl => match us, hl with | [_, _], _ => rfl),
    a_marks_paper := f16, d_marks_paper := _, f_marks_paper := fun_mk l16 c16 k16, m_marks_paper := PySem.W.mg_of X G a16, b_marks_paper := ((fun_mk (st := s_marks_paper) l16 c16 k16).binds (ps := ["code", "places", "marks"]) fun _ _ _ _ _ _ us hl => match us, hl with | [_, _, _], _ => rfl),
    a_judge_marks := f17, d_judge_marks := _, f_judge_marks := fun_mk l17 c17 k17, m_judge_marks := PySem.W.mg_of X G a17, b_judge_marks := ((fun_mk (st := s_judge_marks) l17 c17 k17).binds (ps := ["code", "places", "marks", "value"]) fun _ _ _ _ _ _ us hl => match us, hl with | [_, _, _, _], _ => rfl),
    a_marks_count := f18, d_marks_count := _, f_marks_count := fun_mk l18 c18 k18, m_marks_count := PySem.W.mg_of X G a18, b_marks_count := ((fun_mk (st := s_marks_count) l18 c18 k18).binds (ps := ["code", "places", "marks"]) fun _ _ _ _ _ _ us hl => match us, hl with | [_, _, _], _ => rfl),
    a__law_source := f19, d__law_source := _, f__law_source := fun_mk l19 c19 k19, m__law_source := PySem.W.mg_of X G a19, b__law_source := ((fun_mk (st := s__law_source) l19 c19 k19).binds (ps := ["script"]) fun _ _ _ _ _ _ us hl => match us, hl with | [_], _ => rfl),
    a__law_pick := f20, d__law_pick := _, f__law_pick := fun_mk l20 c20 k20, m__law_pick := PySem.W.mg_of X G a20, b__law_pick := ((fun_mk (st := s__law_pick) l20 c20 k20).binds (ps := ["source", "many"]) fun _ _ _ _ _ _ us hl => match us, hl with | [_, _], _ => rfl),
    a__law_of := f21, d__law_of := _, f__law_of := fun_mk l21 c21 k21, m__law_of := PySem.W.mg_of X G a21, b__law_of := ((fun_mk (st := s__law_of) l21 c21 k21).binds (ps := ["source", "some"]) fun _ _ _ _ _ _ us hl => match us, hl with | [_, _], _ => rfl),
    a__law_mixed := f22, d__law_mixed := _, f__law_mixed := fun_mk l22 c22 k22, m__law_mixed := PySem.W.mg_of X G a22, b__law_mixed := ((fun_mk (st := s__law_mixed) l22 c22 k22).binds (ps := ["source", "things"]) fun _ _ _ _ _ _ us hl => match us, hl with | [_, _], _ => rfl),
    a__law_sum := f23, d__law_sum := _, f__law_sum := fun_mk l23 c23 k23, m__law_sum := PySem.W.mg_of X G a23, b__law_sum := ((fun_mk (st := s__law_sum) l23 c23 k23).binds (ps := ["one", "other"]) fun _ _ _ _ _ _ us hl => match us, hl with | [_, _], _ => rfl),
    a__law_told := f24, d__law_told := _, f__law_told := fun_mk l24 c24 k24, m__law_told := PySem.W.mg_of X G a24, b__law_told := ((fun_mk (st := s__law_told) l24 c24 k24).binds (ps := ["n", "rows"]) fun _ _ _ _ _ _ us hl => match us, hl with | [_, _], _ => rfl),
    a__law_row := f25, d__law_row := _, f__law_row := fun_mk l25 c25 k25, m__law_row := PySem.W.mg_of X G a25, b__law_row := ((fun_mk (st := s__law_row) l25 c25 k25).binds (ps := ["source", "n"]) fun _ _ _ _ _ _ us hl => match us, hl with | [_, _], _ => rfl),
    a__law_base := f26, d__law_base := _, f__law_base := fun_mk l26 c26 k26, m__law_base := PySem.W.mg_of X G a26, b__law_base := ((fun_mk (st := s__law_base) l26 c26 k26).binds (ps := ["source", "n", "k"]) fun _ _ _ _ _ _ us hl => match us, hl with | [_, _, _], _ => rfl),
    a__law_code := f27, d__law_code := _, f__law_code := fun_mk l27 c27 k27, m__law_code := PySem.W.mg_of X G a27, b__law_code := ((fun_mk (st := s__law_code) l27 c27 k27).binds (ps := ["source", "most"]) fun _ _ _ _ _ _ us hl => match us, hl with | [_, _], _ => rfl),
    a__law_some_row := f28, d__law_some_row := _, f__law_some_row := fun_mk l28 c28 k28, m__law_some_row := PySem.W.mg_of X G a28, b__law_some_row := ((fun_mk (st := s__law_some_row) l28 c28 k28).binds (ps := ["source", "code"]) fun _ _ _ _ _ _ us hl => match us, hl with | [_, _], _ => rfl),
    a__law_is_odd := f29, d__law_is_odd := _, f__law_is_odd := fun_mk l29 c29 k29, m__law_is_odd := PySem.W.mg_of X G a29, b__law_is_odd := ((fun_mk (st := s__law_is_odd) l29 c29 k29).binds (ps := ["one", "other"]) fun _ _ _ _ _ _ us hl => match us, hl with | [_, _], _ => rfl),
    a__law_leading := f30, d__law_leading := _, f__law_leading := fun_mk l30 c30 k30, m__law_leading := PySem.W.mg_of X G a30, b__law_leading := ((fun_mk (st := s__law_leading) l30 c30 k30).binds (ps := ["base"]) fun _ _ _ _ _ _ us hl => match us, hl with | [_], _ => rfl),
    a__law_free := f31, d__law_free := _, f__law_free := fun_mk l31 c31 k31, m__law_free := PySem.W.mg_of X G a31, b__law_free := ((fun_mk (st := s__law_free) l31 c31 k31).binds (ps := ["n", "rows"]) fun _ _ _ _ _ _ us hl => match us, hl with | [_, _], _ => rfl),
    a__law_other := f32, d__law_other := _, f__law_other := fun_mk l32 c32 k32, m__law_other := PySem.W.mg_of X G a32, b__law_other := ((fun_mk (st := s__law_other) l32 c32 k32).binds (ps := ["code"]) fun _ _ _ _ _ _ us hl => match us, hl with | [_], _ => rfl),
    a__law_has := f33, d__law_has := _, f__law_has := fun_mk l33 c33 k33, m__law_has := PySem.W.mg_of X G a33, b__law_has := ((fun_mk (st := s__law_has) l33 c33 k33).binds (ps := ["code", "row"]) fun _ _ _ _ _ _ us hl => match us, hl with | [_, _], _ => rfl),
    a__law_number := f34, d__law_number := _, f__law_number := fun_mk l34 c34 k34, m__law_number := PySem.W.mg_of X G a34, b__law_number := ((fun_mk (st := s__law_number) l34 c34 k34).binds (ps := ["value"]) fun _ _ _ _ _ _ us hl => match us, hl with | [_], _ => rfl),
    a__law_are_below := f35, d__law_are_below := _, f__law_are_below := fun_mk l35 c35 k35, m__law_are_below := PySem.W.mg_of X G a35, b__law_are_below := ((fun_mk (st := s__law_are_below) l35 c35 k35).binds (ps := ["value", "most"]) fun _ _ _ _ _ _ us hl => match us, hl with | [_, _], _ => rfl),
    a__law_is_row := f36, d__law_is_row := _, f__law_is_row := fun_mk l36 c36 k36, m__law_is_row := PySem.W.mg_of X G a36, b__law_is_row := ((fun_mk (st := s__law_is_row) l36 c36 k36).binds (ps := ["n", "value"]) fun _ _ _ _ _ _ us hl => match us, hl with | [_, _], _ => rfl),
    a__law_bent := f37, d__law_bent := _, f__law_bent := fun_mk l37 c37 k37, m__law_bent := PySem.W.mg_of X G a37, b__law_bent := ((fun_mk (st := s__law_bent) l37 c37 k37).binds (ps := ["source", "value"]) fun _ _ _ _ _ _ us hl => match us, hl with | [_, _], _ => rfl),
    a__law_places := f38, d__law_places := _, f__law_places := fun_mk l38 c38 k38, m__law_places := PySem.W.mg_of X G a38, b__law_places := ((fun_mk (st := s__law_places) l38 c38 k38).binds (ps := ["source", "n"]) fun _ _ _ _ _ _ us hl => match us, hl with | [_, _], _ => rfl),
    a__law_at := f39, d__law_at := _, f__law_at := fun_mk l39 c39 k39, m__law_at := PySem.W.mg_of X G a39, b__law_at := ((fun_mk (st := s__law_at) l39 c39 k39).binds (ps := ["row", "places"]) fun _ _ _ _ _ _ us hl => match us, hl with | [_, _], _ => rfl),
    a__law_seen := f40, d__law_seen := _, f__law_seen := fun_mk l40 c40 k40, m__law_seen := PySem.W.mg_of X G a40, b__law_seen := ((fun_mk (st := s__law_seen) l40 c40 k40).binds (ps := ["code", "places"]) fun _ _ _ _ _ _ us hl => match us, hl with | [_, _], _ => rfl),
    a__law_fault := f41, d__law_fault := _, f__law_fault := fun_mk l41 c41 k41, m__law_fault := PySem.W.mg_of X G a41, b__law_fault := ((fun_mk (st := s__law_fault) l41 c41 k41).binds (ps := ["code", "places", "marks", "value"]) fun _ _ _ _ _ _ us hl => match us, hl with | [_, _, _, _], _ => rfl),
    a_law := f42, d_law := _, f_law := fun_mk l42 c42 k42, m_law := PySem.W.mg_of X G a42, b_law := ((fun_mk (st := s_law) l42 c42 k42).binds (ps := ["script"]) fun _ _ _ _ _ _ us hl => match us, hl with | [_], _ => rfl),
    n_abs := PySem.W.mg_none_of X G z_abs,
    n_all := PySem.W.mg_none_of X G z_all,
    n_bool := PySem.W.mg_none_of X G z_bool,
    n_enumerate := PySem.W.mg_none_of X G z_enumerate,
    n_int := PySem.W.mg_none_of X G z_int,
    n_isinstance := PySem.W.mg_none_of X G z_isinstance,
    n_len := PySem.W.mg_none_of X G z_len,
    n_list := PySem.W.mg_none_of X G z_list,
    n_max := PySem.W.mg_none_of X G z_max,
    n_range := PySem.W.mg_none_of X G z_range,
    n_repr := PySem.W.mg_none_of X G z_repr,
    n_sorted := PySem.W.mg_none_of X G z_sorted,
    n_str := PySem.W.mg_none_of X G z_str,
    n_sum := PySem.W.mg_none_of X G z_sum,
    n_tuple := PySem.W.mg_none_of X G z_tuple,
    n_zip := PySem.W.mg_none_of X G z_zip }, rfl⟩
  obtain ⟨T, e2⟩ := T
  rw [e, ← e2]
  exact law_ok T hfb
end K75
open PySem PySem.W PyProof.Rows in
set_option maxRecDepth 100000 in
set_option maxHeartbeats 0 in
theorem PySem.Challenge.cw_hightrees_k75_rows_with_told_marks_holds : PySem.Challenge.rw_hightrees_k75_rows_with_told_marks.Holds := by
  w_on; o_law; k_head; (case hw => w_witness2)
  k_fill
  refine Ev.walk_go (l := PySem.Challenge.rw_hightrees_k75_rows_with_told_marks) rfl rfl ?himp (fun w h Y => PySem.W.kIn_of Y) ?F
  case himp => first | rfl | decide +kernel
  case F =>
    intro w mg fa h KX G hmg
    refine' K75.all_mk KX G hmg K75.law_holds ?a0 ?l0 ?c0 ?k0 ?a1 ?l1 ?c1 ?k1 ?a2 ?l2 ?c2 ?k2 ?a3 ?l3 ?c3 ?k3 ?a4 ?l4 ?c4 ?k4 ?a5 ?l5 ?c5 ?k5 ?a6 ?l6 ?c6 ?k6 ?a7 ?l7 ?c7 ?k7 ?a8 ?l8 ?c8 ?k8 ?a9 ?l9 ?c9 ?k9 ?a10 ?l10 ?c10 ?k10 ?a11 ?l11 ?c11 ?k11 ?a12 ?l12 ?c12 ?k12 ?a13 ?l13 ?c13 ?k13 ?a14 ?l14 ?c14 ?k14 ?a15 ?l15 ?c15 ?k15 ?a16 ?l16 ?c16 ?k16 ?a17 ?l17 ?c17 ?k17 ?a18 ?l18 ?c18 ?k18 ?a19 ?l19 ?c19 ?k19 ?a20 ?l20 ?c20 ?k20 ?a21 ?l21 ?c21 ?k21 ?a22 ?l22 ?c22 ?k22 ?a23 ?l23 ?c23 ?k23 ?a24 ?l24 ?c24 ?k24 ?a25 ?l25 ?c25 ?k25 ?a26 ?l26 ?c26 ?k26 ?a27 ?l27 ?c27 ?k27 ?a28 ?l28 ?c28 ?k28 ?a29 ?l29 ?c29 ?k29 ?a30 ?l30 ?c30 ?k30 ?a31 ?l31 ?c31 ?k31 ?a32 ?l32 ?c32 ?k32 ?a33 ?l33 ?c33 ?k33 ?a34 ?l34 ?c34 ?k34 ?a35 ?l35 ?c35 ?k35 ?a36 ?l36 ?c36 ?k36 ?a37 ?l37 ?c37 ?k37 ?a38 ?l38 ?c38 ?k38 ?a39 ?l39 ?c39 ?k39 ?a40 ?l40 ?c40 ?k40 ?a41 ?l41 ?c41 ?k41 ?a42 ?l42 ?c42 ?k42 ?z_abs ?z_all ?z_bool ?z_enumerate ?z_int ?z_isinstance ?z_len ?z_list ?z_max ?z_range ?z_repr ?z_sorted ?z_str ?z_sum ?z_tuple ?z_zip
    (case a0 => k_is)
    (case l0 => k_is)
    (case c0 => k_is)
    (case k0 => k_is)
    (case a1 => k_is)
    (case l1 => k_is)
    (case c1 => k_is)
    (case k1 => k_is)
    (case a2 => k_is)
    (case l2 => k_is)
    (case c2 => k_is)
    (case k2 => k_is)
    (case a3 => k_is)
    (case l3 => k_is)
    (case c3 => k_is)
    (case k3 => k_is)
    (case a4 => k_is)
    (case l4 => k_is)
    (case c4 => k_is)
    (case k4 => k_is)
    (case a5 => k_is)
    (case l5 => k_is)
    (case c5 => k_is)
    (case k5 => k_is)
    (case a6 => k_is)
    (case l6 => k_is)
    (case c6 => k_is)
    (case k6 => k_is)
    (case a7 => k_is)
    (case l7 => k_is)
    (case c7 => k_is)
    (case k7 => k_is)
    (case a8 => k_is)
    (case l8 => k_is)
    (case c8 => k_is)
    (case k8 => k_is)
    (case a9 => k_is)
    (case l9 => k_is)
    (case c9 => k_is)
    (case k9 => k_is)
    (case a10 => k_is)
    (case l10 => k_is)
    (case c10 => k_is)
    (case k10 => k_is)
    (case a11 => k_is)
    (case l11 => k_is)
    (case c11 => k_is)
    (case k11 => k_is)
    (case a12 => k_is)
    (case l12 => k_is)
    (case c12 => k_is)
    (case k12 => k_is)
    (case a13 => k_is)
    (case l13 => k_is)
    (case c13 => k_is)
    (case k13 => k_is)
    (case a14 => k_is)
    (case l14 => k_is)
    (case c14 => k_is)
    (case k14 => k_is)
    (case a15 => k_is)
    (case l15 => k_is)
    (case c15 => k_is)
    (case k15 => k_is)
    (case a16 => k_is)
    (case l16 => k_is)
    (case c16 => k_is)
    (case k16 => k_is)
    (case a17 => k_is)
    (case l17 => k_is)
    (case c17 => k_is)
    (case k17 => k_is)
    (case a18 => k_is)
    (case l18 => k_is)
    (case c18 => k_is)
    (case k18 => k_is)
    (case a19 => k_is)
    (case l19 => k_is)
    (case c19 => k_is)
    (case k19 => k_is)
    (case a20 => k_is)
    (case l20 => k_is)
    (case c20 => k_is)
    (case k20 => k_is)
    (case a21 => k_is)
    (case l21 => k_is)
    (case c21 => k_is)
    (case k21 => k_is)
    (case a22 => k_is)
    (case l22 => k_is)
    (case c22 => k_is)
    (case k22 => k_is)
    (case a23 => k_is)
    (case l23 => k_is)
    (case c23 => k_is)
    (case k23 => k_is)
    (case a24 => k_is)
    (case l24 => k_is)
    (case c24 => k_is)
    (case k24 => k_is)
    (case a25 => k_is)
    (case l25 => k_is)
    (case c25 => k_is)
    (case k25 => k_is)
    (case a26 => k_is)
    (case l26 => k_is)
    (case c26 => k_is)
    (case k26 => k_is)
    (case a27 => k_is)
    (case l27 => k_is)
    (case c27 => k_is)
    (case k27 => k_is)
    (case a28 => k_is)
    (case l28 => k_is)
    (case c28 => k_is)
    (case k28 => k_is)
    (case a29 => k_is)
    (case l29 => k_is)
    (case c29 => k_is)
    (case k29 => k_is)
    (case a30 => k_is)
    (case l30 => k_is)
    (case c30 => k_is)
    (case k30 => k_is)
    (case a31 => k_is)
    (case l31 => k_is)
    (case c31 => k_is)
    (case k31 => k_is)
    (case a32 => k_is)
    (case l32 => k_is)
    (case c32 => k_is)
    (case k32 => k_is)
    (case a33 => k_is)
    (case l33 => k_is)
    (case c33 => k_is)
    (case k33 => k_is)
    (case a34 => k_is)
    (case l34 => k_is)
    (case c34 => k_is)
    (case k34 => k_is)
    (case a35 => k_is)
    (case l35 => k_is)
    (case c35 => k_is)
    (case k35 => k_is)
    (case a36 => k_is)
    (case l36 => k_is)
    (case c36 => k_is)
    (case k36 => k_is)
    (case a37 => k_is)
    (case l37 => k_is)
    (case c37 => k_is)
    (case k37 => k_is)
    (case a38 => k_is)
    (case l38 => k_is)
    (case c38 => k_is)
    (case k38 => k_is)
    (case a39 => k_is)
    (case l39 => k_is)
    (case c39 => k_is)
    (case k39 => k_is)
    (case a40 => k_is)
    (case l40 => k_is)
    (case c40 => k_is)
    (case k40 => k_is)
    (case a41 => k_is)
    (case l41 => k_is)
    (case c41 => k_is)
    (case k41 => k_is)
    (case a42 => k_is)
    (case l42 => k_is)
    (case c42 => k_is)
    (case k42 => k_is)
    (case z_abs => k_is)
    (case z_all => k_is)
    (case z_bool => k_is)
    (case z_enumerate => k_is)
    (case z_int => k_is)
    (case z_isinstance => k_is)
    (case z_len => k_is)
    (case z_list => k_is)
    (case z_max => k_is)
    (case z_range => k_is)
    (case z_repr => k_is)
    (case z_sorted => k_is)
    (case z_str => k_is)
    (case z_sum => k_is)
    (case z_tuple => k_is)
    (case z_zip => k_is)
