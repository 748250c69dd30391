import PyProof.Rows.All
import Wide.All
import OpenK.AllK
import Wide.FinOn
import HandS.ForMost
import HandS.ForExc
import HandS.AnyAll
import HandS.TupAny
import HandS.TupMul
import HandS.Gcd
import HandS.IsInst
import HandS.SortInts
import HandS.Flow
import HandS.Style
import KE.KTupSum
import KE.KSortedM
import KE.KStateDown
import HandS.Head0
import HandS.Head1
import HandS.Head2
import HandS.HeadEnd
import HandS.HeadHook1
import HandS.HeadHook2
import HandS.HeadHook3
import HandS.HeadHook4
import HandS.HeadWalk
import HandS.EndTab
import HandS.Head3
import PySem.Challenge.RW_everydue_k01_faults_of_calendars
set_option Elab.async false
set_option linter.all false
/-! Pc: a pure evaluator for the part of Python that is met here -/
namespace Pc
open PySem L2

/-- pure data -/
inductive D where
  | non | bl (b : Bool) | int (i : Int) | str (s : Str) | tup (xs : List D) | lst (xs : List D) | scr (ns : List Int)
/-- a value at run time: data, or the n-th cell of the store -/
inductive W where
  | d (x : D) | loc (n : Nat)
inductive Cell where
  | lst (ws : List W) | dct (kvs : List (Key × W)) | ins (c : Nat) (fs : List (Str × W))
abbrev Sto := List Cell
abbrev Env := List (Option W)
/-- an exception: its class, its fields -/
structure Ex where
  cls : Nat
  fs : List (Str × D)
inductive R (α : Type) where
  | ok (a : α) (S : Sto)
  | exc (x : Ex) (S : Sto)
  | err
def R.bind {α β : Type} (r : R α) (f : α → Sto → R β) : R β := match r with
  | .ok a S => f a S
  | .exc x S => .exc x S
  | .err => .err
theorem R.bind_ok {α β : Type} (a : α) (S : Sto) (f : α → Sto → R β) : (R.ok a S).bind f = f a S := rfl
theorem R.bind_exc {α β : Type} (x : Ex) (S : Sto) (f : α → Sto → R β) : (R.exc x S).bind f = .exc x S := rfl
theorem R.bind_err {α β : Type} (f : α → Sto → R β) : (R.err).bind f = .err := rfl

inductive BOp where
  | add | sub | mul | fdiv | mod | pow
inductive COp where
  | eq | ne | lt | le | gt | ge | is | nis | inn | nin
inductive Ty where
  | int | bool | str | tuple | list
/-- built-in functions of values -/
inductive Bi where
  | len | abs | min | max | sum | int | tuple | list | sorted | gcd | isinst (t : Ty)
inductive Gk where
  | all | any | sum
/-- methods of built-in types -/
inductive Bm where
  | append | sort | get
inductive Tg where
  | nm (i : Nat) | tup (is : List Nat)
inductive Ik where
  | seq | rng1 | rng2
inductive E where
  | k (d : D)
  | var (i : Nat)
  | bin (o : BOp) (a b : E)
  | neg (a : E)
  | cmp (o : COp) (a b : E)
  | chn (o o' : COp) (a b c : E)
  | and (a b : E) | or (a b : E) | not (a : E)
  | ife (t a b : E)
  | tup (es : List E)
  | lst (m : Bool) (es : List E)
  | dct (ks : List Key) (es : List E)
  | ix (a b : E)
  | nopart
  | sl (a lo hi : E)
  | call (m : Bool) (f : Nat) (es : List E)
  | bi (f : Bi) (es : List E)
  | bm (f : Bm) (a : E) (es : List E)
  | lc (m : Bool) (t : Tg) (it : Ik) (is : List E) (c : List E) (e : E) (own : List Nat)
  | gx (g : Gk) (t : Tg) (it : Ik) (is : List E) (e : E) (own : List Nat)
  | fld (a : E) (f : Str)
  | meth (f : Nat) (c : Nat) (a : E) (es : List E)
  | make (c : Nat) (f : Nat) (es : List E)
inductive C where
  | pass | brk | cont
  | asg (t : Tg) (e : E)
  | aug (o : BOp) (i : Nat) (e : E)
  | setix (a i e : E)
  | setfld (a : E) (f : Str) (e : E)
  | ex (e : E)
  | ret (e : E)
  | ifs (t : E) (a b : List C)
  | whil (t : E) (a : List C)
  | forr (t : Tg) (it : Ik) (is : List E) (a : List C)

/-! ### values -/
/-- all data -/
def allD : List W → Option (List D)
  | [] => some []
  | .d x :: ws => (allD ws).map (x :: ·)
  | .loc _ :: _ => none
def allI : List W → Option (List Int)
  | [] => some []
  | .d (.int i) :: ws => (allI ws).map (i :: ·)
  | _ :: _ => none
/-- the items of a list or tuple -/
def seqOf (S : Sto) : W → Option (List W)
  | .d (.tup xs) => some (xs.map .d)
  | .d (.lst xs) => some (xs.map .d)
  | .d (.scr ns) => some (ns.map fun i => .d (.int i))
  | .loc n => match S[n]? with
    | some (.lst ws) => some ws
    | _ => none
  | _ => none
/-- the items of a list -/
def lstOf (S : Sto) : W → Option (List W)
  | .d (.tup _) => none
  | w => seqOf S w
def maxLen : Nat := 16777216
def atW {α : Type} (xs : List α) (i : Int) : Option α :=
  if 0 ≤ i then xs[i.toNat]? else if -(xs.length : Int) ≤ i then xs[(i + xs.length).toNat]? else none
def ofO {α : Type} (o : Option α) (S : Sto) : R α := match o with
  | some a => .ok a S
  | none => .err
def truthD : D → Bool
  | .non => false
  | .bl b => b
  | .int i => !decide (i = 0)
  | .str s => !decide (s.length = 0)
  | .tup xs => !xs.isEmpty
  | .lst xs => !xs.isEmpty
  | .scr ns => !ns.isEmpty
def truthW (S : Sto) : W → Option Bool
  | .d (.str s) => if s.length ≤ maxLen then some (truthD (.str s)) else none
  | .d x => some (truthD x)
  | .loc n => match S[n]? with
    | some (.lst ws) => some (!ws.isEmpty)
    | some (.dct kvs) => some (!kvs.isEmpty)
    | _ => none
/- equality of data -/
mutual
def eqD : D → D → Bool
  | .non, .non => true
  | .bl a, .bl b => a == b
  | .bl a, .int j => (if a then 1 else 0) == j
  | .int i, .bl b => i == (if b then 1 else 0)
  | .int i, .int j => i == j
  | .str x, .str y => x == y
  | .tup xs, .tup ys => eqDs xs ys
  | .lst xs, .lst ys => eqDs xs ys
  | _, _ => false
def eqDs : List D → List D → Bool
  | [], [] => true
  | x :: xs, y :: ys => eqD x y && eqDs xs ys
  | _, _ => false
end
/- how deep data are -/
mutual
def dep : D → Nat
  | .tup xs => deps xs + 1
  | .lst xs => deps xs + 1
  | .scr _ => 1000
  | _ => 0
def deps : List D → Nat
  | [] => 0
  | x :: xs => max (dep x) (deps xs)
end
/- texts within data are texts of signs -/
mutual
def sok : D → Bool
  | .tup xs => soks xs
  | .lst xs => soks xs
  | .str s => PyData.strOk s
  | .scr _ => false
  | _ => true
def soks : List D → Bool
  | [] => true
  | x :: xs => sok x && soks xs
end
def shp (x : D) : Bool := sok x && decide (dep x ≤ 60)
/-- a list read as data -/
def rdD (S : Sto) : W → Option D
  | .d x => some x
  | .loc n => match S[n]? with
    | some (.lst ws) => (allD ws).map .lst
    | _ => none
def isNon : D → Bool
  | .non => true
  | _ => false
def isScr : D → Bool
  | .scr _ => true
  | _ => false
def isFlat : D → Bool
  | .non | .bl _ | .int _ | .str _ => true
  | _ => false
def lexLt : List Int → List Int → Bool
  | [], [] => false
  | [], _ :: _ => true
  | _ :: _, [] => false
  | x :: xs, y :: ys => if x = y then lexLt xs ys else decide (x < y)
def mulOk (a b : Int) : Bool := decide ((-(2 ^ 64) < a ∧ a < 2 ^ 64) ∨ (-(2 ^ 64) < b ∧ b < 2 ^ 64))
def valK (kvs : List (Key × W)) (k : Key) : Option W := (kvs.find? fun kv => decide (kv.1 = k)).map (·.2)
def putK (kvs : List (Key × W)) (k : Key) (v : W) : List (Key × W) :=
  if (kvs.any fun kv => decide (kv.1 = k)) = true then kvs.map (fun kv => if kv.1 = k then (kv.1, v) else kv) else kvs ++ [(k, v)]
def keyW : W → Option Key
  | .d (.int i) => some (.inl i)
  | .d (.str s) => some (.inr s)
  | _ => none

def binW (o : BOp) (x y : W) (S : Sto) : R W := match o, x, y with
  | .add, .d (.int i), .d (.int j) => .ok (.d (.int (i + j))) S
  | .sub, .d (.int i), .d (.int j) => .ok (.d (.int (i - j))) S
  | .mul, .d (.int i), .d (.int j) => if mulOk i j then .ok (.d (.int (i * j))) S else .err
  | .fdiv, .d (.int i), .d (.int j) => if 0 < j ∧ j < 1073741824 then .ok (.d (.int (i / j))) S else .err
  | .mod, .d (.int i), .d (.int j) => if 0 < j then .ok (.d (.int (i % j))) S else .err
  | .pow, .d (.int i), .d (.int j) => if 0 ≤ j ∧ j ≤ 1000000 ∧ i.natAbs < 2 ^ 64 then .ok (.d (.int (i ^ j.toNat))) S else .err
  | .add, .d (.tup xs), .d (.tup ys) => if xs.length + ys.length ≤ maxLen then .ok (.d (.tup (xs ++ ys))) S else .err
  | .add, .d (.lst xs), .d (.lst ys) => if xs.length + ys.length ≤ maxLen then .ok (.d (.lst (xs ++ ys))) S else .err
  | .mul, .d (.tup xs), .d (.int k) => if xs ≠ [] ∧ 2 ≤ k ∧ k ≤ 1000 ∧ xs.length ≤ 1000 then .ok (.d (.tup (List.replicate k.toNat xs).flatten)) S else .err
  | .mul, .d (.lst xs), .d (.int k) => if 0 ≤ k ∧ k < 2 ^ 63 ∧ xs.length * k.toNat ≤ maxLen then .ok (.d (.lst (List.replicate k.toNat xs).flatten)) S else .err
  | _, _, _ => .err
/-- op= at a name -/
def augW (o : BOp) (x y : W) (S : Sto) : R W := match o, x, y with
  | .add, .d (.int i), .d (.int j) => .ok (.d (.int (i + j))) S
  | .sub, .d (.int i), .d (.int j) => .ok (.d (.int (i - j))) S
  | _, _, _ => .err
def eqW (x y : W) (S : Sto) : Option Bool := match x, y with
  | .d (.int a), .d (.int b) => some (a == b)
  | .d (.str a), .d (.str b) => some (a == b)
  | x, y => match rdD S x, rdD S y with
    | some a, some b => if shp a && shp b then some (eqD a b) else none
    | _, _ => none
def cmpW (o : COp) (x y : W) (S : Sto) : R W := match o, x, y with
  | .lt, .d (.int i), .d (.int j) => .ok (.d (.bl (decide (i < j)))) S
  | .le, .d (.int i), .d (.int j) => .ok (.d (.bl (decide (i ≤ j)))) S
  | .gt, .d (.int i), .d (.int j) => .ok (.d (.bl (decide (j < i)))) S
  | .ge, .d (.int i), .d (.int j) => .ok (.d (.bl (decide (j ≤ i)))) S
  | .is, .d x, .d .non => .ok (.d (.bl (isNon x))) S
  | .nis, .d x, .d .non => .ok (.d (.bl (!isNon x))) S
  | .eq, x, y => (ofO (eqW x y S) S).bind fun b S => .ok (.d (.bl b)) S
  | .ne, x, y => (ofO (eqW x y S) S).bind fun b S => .ok (.d (.bl (!b))) S
  | .inn, .d x, .d (.tup ys) => if isFlat x ∧ ys.all isFlat then .ok (.d (.bl (ys.any fun y => eqD y x))) S else .err
  | .nin, .d x, .d (.tup ys) => if isFlat x ∧ ys.all isFlat then .ok (.d (.bl (!ys.any fun y => eqD y x))) S else .err
  | .inn, .d x, .d (.lst ys) => if isFlat x ∧ ys.all isFlat then .ok (.d (.bl (ys.any fun y => eqD y x))) S else .err
  | .nin, .d x, .d (.lst ys) => if isFlat x ∧ ys.all isFlat then .ok (.d (.bl (!ys.any fun y => eqD y x))) S else .err
  | .inn, .d x, .loc n => match keyW (.d x), S[n]? with
    | some k, some (.dct kvs) => .ok (.d (.bl (valK kvs k).isSome)) S
    | _, _ => .err
  | .nin, .d x, .loc n => match keyW (.d x), S[n]? with
    | some k, some (.dct kvs) => .ok (.d (.bl (!(valK kvs k).isSome))) S
    | _, _ => .err
  | _, _, _ => .err
def ixW (x y : W) (S : Sto) : R W := match y with
  | .d (.int i) => match x with
    | .d (.str s) => if s.length ≤ maxLen then (ofO (atW s.cps.toList i) S).bind fun c S => .ok (.d (.str ⟨#[c]⟩)) S else .err
    | .loc n => match S[n]? with
      | some (.dct kvs) => ofO (valK kvs (.inl i)) S
      | some (.lst ws) => ofO (atW ws i) S
      | _ => .err
    | x => (ofO (seqOf S x) S).bind fun ws S => ofO (atW ws i) S
  | .d (.str k) => match x with
    | .loc n => match S[n]? with
      | some (.dct kvs) => ofO (valK kvs (.inr k)) S
      | _ => .err
    | _ => .err
  | _ => .err
def sIx (n : Nat) (d : Nat) : Option Int → Nat
  | none => d
  | some i => if 0 ≤ i then min i.toNat n else (i + n).toNat
def cutL {α : Type} (xs : List α) (lo hi : Nat) : List α := (xs.drop lo).take (hi - lo)
def slW (x : W) (l h : Option Int) (S : Sto) : R W := match x with
  | .d (.tup xs) => .ok (.d (.tup (cutL xs (sIx xs.length 0 l) (sIx xs.length xs.length h)))) S
  | .d (.lst xs) => .ok (.d (.lst (cutL xs (sIx xs.length 0 l) (sIx xs.length xs.length h)))) S
  | _ => .err
/-- a part of a slice -/
def partW : E → W → Option (Option Int)
  | .nopart, _ => some none
  | _, .d (.int i) => some (some i)
  | _, _ => none
def tyD (t : Ty) : D → Bool
  | .int _ => match t with | .int => true | _ => false
  | .bl _ => match t with | .int => true | .bool => true | _ => false
  | .str _ => match t with | .str => true | _ => false
  | .tup _ => match t with | .tuple => true | _ => false
  | .lst _ => match t with | .list => true | _ => false
  | .scr _ => match t with | .list => true | _ => false
  | .non => false
def minL : List Int → Int → Int
  | [], m => m
  | x :: xs, m => minL xs (if x < m then x else m)
def maxL : List Int → Int → Int
  | [], m => m
  | x :: xs, m => maxL xs (if m < x then x else m)
def insI (x : Int) : List Int → List Int
  | [] => [x]
  | y :: ys => if x ≤ y then x :: y :: ys else y :: insI x ys
def sortI : List Int → List Int
  | [] => []
  | x :: xs => insI x (sortI xs)
def biW (f : Bi) (ws : List W) (S : Sto) : R W := match f, ws with
  | .len, [w] => match w with
    | .d (.str s) => if s.length ≤ maxLen then .ok (.d (.int s.length)) S else .err
    | .loc n => match S[n]? with
      | some (.dct kvs) => .ok (.d (.int kvs.length)) S
      | some (.lst ws) => .ok (.d (.int ws.length)) S
      | _ => .err
    | w => (ofO (seqOf S w) S).bind fun ws S => .ok (.d (.int ws.length)) S
  | .abs, [.d (.int i)] => .ok (.d (.int (if i < 0 then -i else i))) S
  | .min, [.d (.int i), .d (.int j)] => .ok (.d (.int (if j < i then j else i))) S
  | .max, [.d (.int i), .d (.int j)] => .ok (.d (.int (if j > i then j else i))) S
  | .min, [w] => match (lstOf S w).bind allI with
    | some (x :: xs) => .ok (.d (.int (minL xs x))) S
    | _ => .err
  | .max, [w] => match (lstOf S w).bind allI with
    | some (x :: xs) => .ok (.d (.int (maxL xs x))) S
    | _ => .err
  | .sum, [w] => (ofO ((seqOf S w).bind allI) S).bind fun ns S => .ok (.d (.int ns.sum)) S
  | .int, [.d (.int i)] => .ok (.d (.int i)) S
  | .int, [.d (.bl b)] => .ok (.d (.int (if b then 1 else 0))) S
  | .tuple, [w] => (ofO ((seqOf S w).bind allD) S).bind fun ds S => .ok (.d (.tup ds)) S
  | .list, [w] => (ofO ((seqOf S w).bind allD) S).bind fun ds S => .ok (.d (.lst ds)) S
  | .sorted, [w] => (ofO ((lstOf S w).bind allI) S).bind fun ns S => .ok (.d (.lst ((sortI ns).map .int))) S
  | .gcd, [.d (.int a), .d (.int b)] => .ok (.d (.int ((Nat.gcd a.natAbs b.natAbs : Nat) : Int))) S
  | .isinst t, [.d x] => if isScr x = false then .ok (.d (.bl (tyD t x))) S else .err
  | _, _ => .err
def bmW (f : Bm) (x : W) (ws : List W) (S : Sto) : R W := match f, x, ws with
  | .append, .loc n, [w] => match S[n]? with
    | some (.lst xs) => if xs.length < maxLen then .ok (.d .non) (S.set n (.lst (xs ++ [w]))) else .err
    | _ => .err
  | .get, .loc n, [.d k] => match keyW (.d k), S[n]? with
    | some k, some (.dct kvs) => .ok ((valK kvs k).getD (.d .non)) S
    | _, _ => .err
  | .get, .loc n, [.d k, w] => match keyW (.d k), S[n]? with
    | some k, some (.dct kvs) => .ok ((valK kvs k).getD w) S
    | _, _ => .err
  | .sort, .loc n, [] => match S[n]? with
    | some (.lst xs) => match allI xs with
      | some ns => .ok (.d .non) (S.set n (.lst ((sortI ns).map fun i => .d (.int i))))
      | none => .err
    | _ => .err
  | _, _, _ => .err
/-- the receiver is of the method's type -/
def recvOk (f : Bm) (x : W) (S : Sto) : Bool := match x with
  | .loc n => match S[n]?, f with
    | some (.lst _), .append => true
    | some (.lst _), .sort => true
    | some (.dct _), .get => true
    | _, _ => false
  | _ => false
/-- what a for walks -/
def itW (k : Ik) (ws : List W) (S : Sto) : Option (List W) := match k, ws with
  | .seq, [.d (.str s)] => some (s.cps.toList.map fun c => .d (.str ⟨#[c]⟩))
  | .seq, [w] => seqOf S w
  | .rng1, [.d (.int n)] => if -(2 ^ 60) < n ∧ n < 2 ^ 60 then some ((List.range n.toNat).map fun (i : Nat) => .d (.int i)) else none
  | .rng2, [.d (.int a), .d (.int b)] => if -(2 ^ 60) < a ∧ a < 2 ^ 60 ∧ -(2 ^ 60) < b ∧ b < 2 ^ 60 then some ((List.range (b - a).toNat).map fun (i : Nat) => .d (.int (a + i))) else none
  | _, _ => none
/-- the walked list stands still -/
def still (k : Ik) (ws : List W) (xs : List W) (S : Sto) : Prop := match k, ws with
  | .seq, [.loc n] => S[n]? = some (.lst xs)
  | _, _ => True
def setN (env : Env) : List Nat → List W → Option Env
  | [], [] => some env
  | i :: is, w :: ws => setN (env.set i (some w)) is ws
  | _, _ => none
def bindT (t : Tg) (w : W) (env : Env) (S : Sto) : Option Env := match t with
  | .nm i => some (env.set i (some w))
  | .tup is => match w with
    | .d (.tup xs) => setN env is (xs.map .d)
    | _ => none
def wipeE (env : Env) : List Nat → Env
  | [] => env
  | i :: is => (wipeE env is).set i none

/-! ### calls -/
/-- a list is handed out as data -/
def fz (S : Sto) : W → Option D := rdD S
def W.below (b : Nat) : W → Bool
  | .d _ => true
  | .loc n => decide (n < b)
def Cell.below (b : Nat) : Cell → Bool
  | .lst ws => ws.all (W.below b)
  | .dct kvs => kvs.all fun kv => kv.2.below b
  | .ins _ fs => fs.all fun kv => kv.2.below b
/-- behind a call: the store without the callee's own cells, if nothing speaks of them -/
def trim (b : Nat) (S : Sto) : Sto := if (S.take b).all (Cell.below b) then S.take b else S
abbrev Call := Nat → List W → Sto → R W
/-- a call, what comes back is data (or a cell that stood before) -/
def callF (cl : Call) (f : Nat) (ws : List W) (S : Sto) : R W := match allD ws with
  | some _ => match cl f ws [] with
    | .ok w S1 => (ofO (rdD S1 w) S).bind fun x S => .ok (.d x) S
    | .exc x _ => .exc x S
    | .err => .err
  | none => match cl f ws S with
    | .ok w S1 => if w.below S.length then .ok w (trim S.length S1) else if (S1.take S.length).all (Cell.below S.length) then (ofO (rdD S1 w) S1).bind fun x S1 => .ok (.d x) (S1.take S.length) else .err
    | .exc x S1 => .exc x S1
    | .err => .err
/-- a call, what comes back is a new list or dict that may still be changed -/
def callN (cl : Call) (f : Nat) (ws : List W) (S : Sto) : R W := match allD ws with
  | some _ => match cl f ws [] with
    | .ok (.loc n) S1 => match S1[n]? with
      | some c => if c.below 0 then .ok (.loc S.length) (S ++ [c]) else .err
      | none => .err
    | .ok _ _ => .err
    | .exc x _ => .exc x S
    | .err => .err
  | none => cl f ws S

/-! ### expressions -/
/-- no exception may leave here -/
def noexc {α : Type} : R α → R α
  | .exc _ _ => .err
  | r => r
section
variable (cl : Call)
open Classical in
noncomputable def lcR (b : W → Sto → R (Option W)) (k : Ik) (src : List W) (all : List W) : List W → List W → Sto → R (List W)
  | [], acc, S => if still k src all S then .ok acc S else .err
  | x :: xs, acc, S => if still k src all S then (noexc (b x S)).bind fun o S => match o with
      | some w => if acc.length < maxLen then lcR b k src all xs (acc ++ [w]) S else .err
      | none => lcR b k src all xs acc S
    else .err
inductive GS where
  | go (acc : Int) | stop (w : W) | bad
def gStep (g : Gk) (acc : Int) (w : W) : GS := match g, w with
  | .all, .d (.bl true) => .go acc
  | .all, .d (.bl false) => .stop (.d (.bl false))
  | .any, .d (.bl false) => .go acc
  | .any, .d (.bl true) => .stop (.d (.bl true))
  | .sum, .d (.int i) => if (-(2 ^ 63) ≤ i ∧ i < 2 ^ 63) ∧ -(2 ^ 63) ≤ acc + i ∧ acc + i < 2 ^ 63 then .go (acc + i) else .bad
  | _, _ => .bad
def gFin (g : Gk) (acc : Int) : W := match g with
  | .all => .d (.bl true)
  | .any => .d (.bl false)
  | .sum => .d (.int acc)
open Classical in
noncomputable def gR (g : Gk) (b : W → Sto → R W) (k : Ik) (src : List W) (all : List W) : List W → Int → Sto → R W
  | [], acc, S => if still k src all S then .ok (gFin g acc) S else .err
  | x :: xs, acc, S => if still k src all S then (noexc (b x S)).bind fun w S => match gStep g acc w with
      | .go acc' => gR g b k src all xs acc' S
      | .stop w => .ok w S
      | .bad => .err
    else .err
def intW : W → Option Int
  | .d (.int i) => some i
  | _ => none
mutual
noncomputable def evE : E → Env → Sto → R W
  | .k d, _, S => .ok (.d d) S
  | .var i, env, S => ofO (env[i]?.join) S
  | .bin o a b, env, S => (evE a env S).bind fun x S => (evE b env S).bind fun y S => binW o x y S
  | .neg a, env, S => (evE a env S).bind fun x S => match x with
    | .d (.int i) => .ok (.d (.int (-i))) S
    | _ => .err
  | .cmp o a b, env, S => (evE a env S).bind fun x S => (evE b env S).bind fun y S => cmpW o x y S
  | .chn o o' a b c, env, S => (evE a env S).bind fun x S => (evE b env S).bind fun y S => (cmpW o x y S).bind fun t S => match t with
    | .d (.bl true) => (evE c env S).bind fun z S => cmpW o' y z S
    | .d (.bl false) => .ok (.d (.bl false)) S
    | _ => .err
  | .and a b, env, S => (evE a env S).bind fun x S => (ofO (truthW S x) S).bind fun c S => if c then evE b env S else .ok x S
  | .or a b, env, S => (evE a env S).bind fun x S => (ofO (truthW S x) S).bind fun c S => if c then .ok x S else evE b env S
  | .not a, env, S => (evE a env S).bind fun x S => (ofO (truthW S x) S).bind fun c S => .ok (.d (.bl (!c))) S
  | .ife t a b, env, S => (evE t env S).bind fun x S => (ofO (truthW S x) S).bind fun c S => if c then evE a env S else evE b env S
  | .tup es, env, S => (evEs es env S).bind fun ws S => (ofO (allD ws) S).bind fun ds S => .ok (.d (.tup ds)) S
  | .lst m es, env, S => (evEs es env S).bind fun ws S => if m then .ok (.loc S.length) (S ++ [.lst ws]) else (ofO (allD ws) S).bind fun ds S => .ok (.d (.lst ds)) S
  | .dct ks es, env, S => (evEs es env S).bind fun ws S => if ks.length = ws.length ∧ ks.length ≤ 15 ∧ ks.Nodup then .ok (.loc S.length) (S ++ [.dct (ks.zip ws)]) else .err
  | .ix a b, env, S => (evE a env S).bind fun x S => (evE b env S).bind fun y S => ixW x y S
  | .nopart, _, S => .ok (.d .non) S
  | .sl a lo hi, env, S => (evE a env S).bind fun x S => (evE lo env S).bind fun y S => (ofO (partW lo y) S).bind fun l S => (evE hi env S).bind fun z S => (ofO (partW hi z) S).bind fun h S => slW x l h S
  | .call m f es, env, S => (evEs es env S).bind fun ws S => if m then callN cl f ws S else callF cl f ws S
  | .bi f es, env, S => (evEs es env S).bind fun ws S => biW f ws S
  | .bm f a es, env, S => (evE a env S).bind fun x S => if recvOk f x S then (evEs es env S).bind fun ws S => bmW f x ws S else .err
  | .lc m t it is c e own, env, S => (evEs is env S).bind fun src S => (ofO (itW it src S) S).bind fun items S =>
      (lcR (fun x S => (ofO (bindT t x (wipeE env own) S) S).bind fun env' S => (evTs c env' S).bind fun b S => if b then (evE e env' S).bind fun w S => .ok (some w) S else .ok none S) it src items items [] S).bind fun ws S =>
        if m then .ok (.loc S.length) (S ++ [.lst ws]) else (ofO (allD ws) S).bind fun ds S => .ok (.d (.lst ds)) S
  | .gx g t it is e own, env, S => (evEs is env S).bind fun src S => (ofO (itW it src S) S).bind fun items S =>
      gR g (fun x S => (ofO (bindT t x (wipeE env own) S) S).bind fun env' S => evE e env' S) it src items items 0 S
  | .fld a f, env, S => (evE a env S).bind fun x S => match x with
    | .loc n => match S[n]? with
      | some (.ins _ fs) => ofO (fs.lookup f) S
      | _ => .err
    | _ => .err
  | .meth f c a es, env, S => (evE a env S).bind fun x S => match x with
    | .loc n => match S[n]? with
      | some (.ins c' _) => if c' = c then (evEs es env S).bind fun ws S => callF cl f (x :: ws) S else .err
      | _ => .err
    | _ => .err
  | .make c f es, env, S => (evEs es env S).bind fun ws S => (cl f (.loc S.length :: ws) (S ++ [.ins c []])).bind fun _ S1 => .ok (.loc S.length) S1
noncomputable def evEs : List E → Env → Sto → R (List W)
  | [], _, S => .ok [] S
  | e :: es, env, S => (evE e env S).bind fun w S => (evEs es env S).bind fun ws S => .ok (w :: ws) S
noncomputable def evTs : List E → Env → Sto → R Bool
  | [], _, S => .ok true S
  | e :: es, env, S => (evE e env S).bind fun x S => (ofO (truthW S x) S).bind fun c S => if c then evTs es env S else .ok false S
end
noncomputable def evT (e : E) (env : Env) (S : Sto) : R Bool := (evE cl e env S).bind fun x S => ofO (truthW S x) S

/-! ### statements -/
inductive Fl where
  | nx | brk | cont | ret (w : W) | exc (x : Ex)
/-- an expression's result in a statement -/
def lft {α : Type} (r : R α) (env : Env) (f : α → Sto → R (Fl × Env)) : R (Fl × Env) := match r with
  | .ok a S => f a S
  | .exc x S => .ok (.exc x, env) S
  | .err => .err
theorem lft_ok {α : Type} (a : α) (S : Sto) (env : Env) (f : α → Sto → R (Fl × Env)) : lft (.ok a S) env f = f a S := rfl
theorem lft_exc {α : Type} (x : Ex) (S : Sto) (env : Env) (f : α → Sto → R (Fl × Env)) : lft (.exc x S) env f = .ok (.exc x, env) S := rfl
theorem lft_err {α : Type} (env : Env) (f : α → Sto → R (Fl × Env)) : lft .err env f = .err := rfl
def wh (t : Env → Sto → R Bool) (b : Env → Sto → R (Fl × Env)) : Nat → Env → Sto → R (Fl × Env)
  | 0, _, _ => .err
  | n + 1, env, S => lft (t env S) env fun c S => if c then (b env S).bind fun p S => match p.1 with
      | .nx => wh t b n p.2 S
      | .cont => wh t b n p.2 S
      | .brk => .ok (.nx, p.2) S
      | .ret w => .ok (.ret w, p.2) S
      | .exc x => .ok (.exc x, p.2) S
    else .ok (.nx, env) S
open Classical in
noncomputable def whl (t : Env → Sto → R Bool) (b : Env → Sto → R (Fl × Env)) (env : Env) (S : Sto) : R (Fl × Env) :=
  if h : ∃ n, wh t b n env S ≠ .err then wh t b (Classical.choose h) env S else .err
open Classical in
noncomputable def forR (b : W → Env → Sto → R (Fl × Env)) (k : Ik) (src : List W) (all : List W) : List W → Env → Sto → R (Fl × Env)
  | [], env, S => if still k src all S then .ok (.nx, env) S else .err
  | x :: xs, env, S => if still k src all S then (b x env S).bind fun p S => match p.1 with
      | .nx => forR b k src all xs p.2 S
      | .cont => forR b k src all xs p.2 S
      | .brk => .ok (.nx, p.2) S
      | .ret w => .ok (.ret w, p.2) S
      | .exc x => .ok (.exc x, p.2) S
    else .err
def setixW (x i v : W) (S : Sto) : R Unit := match x with
  | .loc n => match S[n]? with
    | some (.dct kvs) => match keyW i with
      | some k => if kvs.length < maxLen then .ok () (S.set n (.dct (putK kvs k v))) else .err
      | none => .err
    | some (.lst ws) => match i with
      | .d (.int j) => if 0 ≤ j ∧ j < ws.length then .ok () (S.set n (.lst (ws.set j.toNat v))) else .err
      | _ => .err
    | _ => .err
  | _ => .err
def putF : List (Str × W) → Str → W → List (Str × W)
  | [], k, v => [(k, v)]
  | (q, u) :: r, k, v => if q = k then (q, v) :: r else (q, u) :: putF r k v
def setfldW (x : W) (f : Str) (v : W) (S : Sto) : R Unit := match x with
  | .loc n => match S[n]? with
    | some (.ins c fs) => if fs.length < 100 then .ok () (S.set n (.ins c (putF fs f v))) else .err
    | _ => .err
  | _ => .err
mutual
noncomputable def exS : C → Env → Sto → R (Fl × Env)
  | .pass, env, S => .ok (.nx, env) S
  | .brk, env, S => .ok (.brk, env) S
  | .cont, env, S => .ok (.cont, env) S
  | .asg t e, env, S => lft (evE cl e env S) env fun w S => lft (ofO (bindT t w env S) S) env fun env S => .ok (.nx, env) S
  | .aug o i e, env, S => lft (ofO (env[i]?.join) S) env fun x S => lft (evE cl e env S) env fun y S => lft (augW o x y S) env fun w S => .ok (.nx, env.set i (some w)) S
  | .setix a i e, env, S => lft (evE cl e env S) env fun v S => lft (evE cl a env S) env fun x S => lft (evE cl i env S) env fun j S => lft (setixW x j v S) env fun _ S => .ok (.nx, env) S
  | .setfld a f e, env, S => lft (evE cl e env S) env fun v S => lft (evE cl a env S) env fun x S => lft (setfldW x f v S) env fun _ S => .ok (.nx, env) S
  | .ex e, env, S => lft (evE cl e env S) env fun _ S => .ok (.nx, env) S
  | .ret e, env, S => lft (evE cl e env S) env fun w S => .ok (.ret w, env) S
  | .ifs t a b, env, S => lft (evT cl t env S) env fun c S => if c then exSs a env S else exSs b env S
  | .whil t a, env, S => whl (fun env S => evT cl t env S) (fun env S => exSs a env S) env S
  | .forr t it is a, env, S => lft (evEs cl is env S) env fun src S => lft (ofO (itW it src S) S) env fun items S =>
      forR (fun x env S => lft (ofO (bindT t x env S) S) env fun env S => exSs a env S) it src items items env S
noncomputable def exSs : List C → Env → Sto → R (Fl × Env)
  | [], env, S => .ok (.nx, env) S
  | c :: cs, env, S => (exS c env S).bind fun p S => match p.1 with
    | .nx => exSs cs p.2 S
    | f => .ok (f, p.2) S
end
end
/-- a def: the number of its parameters, of its slots, its body -/
structure Fn where
  np : Nat
  nl : Nat
  body : List C
abbrev Prg := List Fn
noncomputable def run (P : Prg) : Nat → Nat → List W → Sto → R W
  | 0, _, _, _ => .err
  | n + 1, f, ws, S => match P[f]? with
    | some fn => if ws.length = fn.np ∧ fn.np ≤ fn.nl then (noexc (exSs (run P n) fn.body (ws.map some ++ List.replicate (fn.nl - fn.np) none) S)).bind fun p S => match p.1 with
        | .nx => .ok (.d .non) S
        | .ret w => .ok w S
        | .exc x => .exc x S
        | _ => .err
      else .err
    | none => .err
end Pc
set_option Elab.async false
set_option linter.all false
set_option maxRecDepth 100000
set_option autoImplicit false
/-! PcR: how pure data stand in the heap -/
namespace Pc
open PySem L2

/-- what is fixed: the written part, the tables of code objects, the classes -/
structure Cfg where
  K : PySem.W.Frag
  T : List Addr
  ca : Nat → Option Addr
/-- where things stand: the addresses that may change, the cells' addresses, the heap -/
structure Gh where
  M : Addr → Prop
  r : List Addr
  H : Hp

/-- the script stands: frozen in the heap, or an object of the module -/
def ScrR (K : PySem.W.Frag) (H : Hp) (a : Addr) (xs : List V) : Prop := (∃ o, H a = some (.frz o (.lst xs))) ∨
  ∃ (o : Obj) (its : Array Value) (n : Nat), K.lookup a = some o ∧ o.cls = .type "list" ∧ o.dict = none ∧ o.data = .seq its n ∧ its.size ≤ sizeLine ∧ Vals xs its.toList
theorem ScrR.sq {K : PySem.W.Frag} {H : Hp} {a : Addr} {xs : List V} (h : ScrR K H a xs) : SqL K H a xs := h.elim (fun h => .inl (.inr h)) .inr
theorem ScrR.imp {K : PySem.W.Frag} {H H' : Hp} {a : Addr} {xs : List V} (h : ScrR K H a xs) (k : ∀ o, H a = some (.frz o (.lst xs)) → H' a = some (.frz o (.lst xs))) : ScrR K H' a xs := h.elim (fun ⟨o, h⟩ => .inl ⟨o, k o h⟩) .inr
mutual
def RD (K : PySem.W.Frag) (g : Gh) : D → V → Prop
  | .non, v => v = .non
  | .bl b, v => v = .bl b
  | .int i, v => v = .int i
  | .str s, v => v = .str s
  | .tup ds, v => ∃ a vs, v = .ref a ∧ SqT K g.H a vs ∧ RDs K g ds vs
  | .lst ds, v => ∃ a vs, v = .ref a ∧ g.H a = some (.lst vs) ∧ ¬ g.M a ∧ RDs K g ds vs
  | .scr ns, v => ∃ a, v = .ref a ∧ ScrR K g.H a (ns.map V.int)
def RDs (K : PySem.W.Frag) (g : Gh) : List D → List V → Prop
  | [], vs => vs = []
  | d :: ds, vs => ∃ v vs', vs = v :: vs' ∧ RD K g d v ∧ RDs K g ds vs'
end
def RW (K : PySem.W.Frag) (g : Gh) : W → V → Prop
  | .d x, v => RD K g x v
  | .loc n, v => ∃ a, g.r[n]? = some a ∧ v = .ref a
def RWs (K : PySem.W.Frag) (g : Gh) : List W → List V → Prop
  | [], vs => vs = []
  | d :: ds, vs => ∃ v vs', vs = v :: vs' ∧ RW K g d v ∧ RWs K g ds vs'
def RKs {κ : Type} (K : PySem.W.Frag) (g : Gh) : List (κ × W) → List (κ × V) → Prop
  | [], vs => vs = []
  | d :: ds, vs => ∃ v vs', vs = (d.1, v) :: vs' ∧ RW K g d.2 v ∧ RKs K g ds vs'
def CellR (c : Cfg) (g : Gh) (a : Addr) : Cell → Prop
  | .lst ws => ∃ vs, g.H a = some (.lst vs) ∧ RWs c.K g ws vs
  | .dct kvs => ∃ kvs', g.H a = some (.dK kvs') ∧ RKs c.K g kvs kvs'
  | .ins cl fs => ∃ C dx fs', c.ca cl = some C ∧ g.H a = some (.ins C dx fs') ∧ RKs c.K g fs fs'
structure Rl (c : Cfg) (g : Gh) (S : Sto) : Prop where
  len : g.r.length = S.length
  nd : g.r.Nodup
  mem : ∀ a ∈ g.r, g.M a
  cell : ∀ (n : Nat) ce a, S[n]? = some ce → g.r[n]? = some a → CellR c g a ce
  tab : ∀ P ∈ c.T, GxR.TabG g.H P
  some_ : ∀ a, g.M a → g.H a ≠ none
structure Ext (g g' : Gh) : Prop where
  pre : ∀ (n : Nat) a, g.r[n]? = some a → g'.r[n]? = some a
  keep : ∀ b o, g.H b = some o → b ∉ g.r → (∀ ps, o ≠ .tbl ps) → g'.H b = some o
  grow : ∀ b, g'.M b → g.M b ∨ g.H b = none
  old : ∀ b, g.M b → g'.M b
  fresh : ∀ (n : Nat) a, g'.r[n]? = some a → g.r.length ≤ n → g.H a = none
  st : ∀ b, g.H b ≠ none → g'.H b ≠ none
theorem Ext.refl (g : Gh) : Ext g g := ⟨fun _ _ h => h, fun _ _ h _ _ => h, fun _ h => .inl h, fun _ h => h,
  fun n a h hn => (by rw [List.getElem?_eq_none hn] at h; cases h), fun _ h => h⟩
theorem Ext.mem {g g' : Gh} (e : Ext g g') {b : Addr} (h : b ∈ g'.r) : b ∈ g.r ∨ g.H b = none := by
  obtain ⟨n, hn, rfl⟩ := List.getElem_of_mem h
  have h1 : g'.r[n]? = some g'.r[n] := List.getElem?_eq_getElem hn
  by_cases hl : n < g.r.length
  · have h2 := e.pre n _ (List.getElem?_eq_getElem hl)
    rw [h1] at h2
    left
    rw [Option.some.inj h2]
    exact List.getElem_mem hl
  · exact .inr (e.fresh n _ h1 (by omega))
theorem Ext.trans {g g1 g2 : Gh} (a : Ext g g1) (b : Ext g1 g2) : Ext g g2 where
  pre := fun n x h => b.pre n x (a.pre n x h)
  keep := fun x o h hr ht => b.keep x o (a.keep x o h hr ht) (fun hm => by
    rcases a.mem hm with h1 | h1
    · exact hr h1
    · rw [h1] at h; cases h) ht
  grow := fun x h => by
    rcases b.grow x h with h1 | h1
    · exact a.grow x h1
    · right
      by_cases h2 : g.H x = none
      · exact h2
      · exact absurd h1 (a.st x h2)
  old := fun x h => b.old x (a.old x h)
  fresh := fun n x h hn => by
    by_cases hl : n < g1.r.length
    · have h2 := b.pre n _ (List.getElem?_eq_getElem hl)
      rw [h] at h2
      rw [Option.some.inj h2]
      exact a.fresh n _ (List.getElem?_eq_getElem hl) hn
    · have h2 := b.fresh n x h (by omega)
      by_cases h3 : g.H x = none
      · exact h3
      · exact absurd h2 (a.st x h3)
  st := fun x h => b.st x (a.st x h)

section
variable {c : Cfg} {g g' : Gh} {S S' : Sto}
theorem Rl.kind (R : Rl c g S) {a : Addr} (h : a ∈ g.r) : ∃ o, g.H a = some o ∧ (∀ xs, o ≠ .tup xs) ∧ (∀ o' u, o ≠ .frz o' u) ∧ (∀ ps, o ≠ .tbl ps) := by
  obtain ⟨n, hn, rfl⟩ := List.getElem_of_mem h
  have hs : n < S.length := R.len ▸ hn
  have q := R.cell n _ _ (List.getElem?_eq_getElem hs) (List.getElem?_eq_getElem hn)
  cases hc : S[n] with
  | lst ws => rw [hc] at q; obtain ⟨vs, h1, _⟩ := q; exact ⟨_, h1, (fun _ z => nomatch z), (fun _ _ z => nomatch z), (fun _ z => nomatch z)⟩
  | dct ws => rw [hc] at q; obtain ⟨vs, h1, _⟩ := q; exact ⟨_, h1, (fun _ z => nomatch z), (fun _ _ z => nomatch z), (fun _ z => nomatch z)⟩
  | ins cl ws => rw [hc] at q; obtain ⟨C, dx, vs, _, h1, _⟩ := q; exact ⟨_, h1, (fun _ z => nomatch z), (fun _ _ z => nomatch z), (fun _ z => nomatch z)⟩
theorem Rl.sqT (R : Rl c g S) (e : Ext g g') {a : Addr} {vs : List V} (h : SqT c.K g.H a vs) : SqT c.K g'.H a vs := by
  rcases h with (h | ⟨o, h⟩) | h
  · exact .inl (.inl (e.keep a _ h (fun hm => by
      obtain ⟨o, h1, h2, _⟩ := R.kind hm
      rw [h] at h1; exact h2 _ (Option.some.inj h1).symm) (fun ps z => nomatch z)))
  · exact .inl (.inr ⟨o, e.keep a _ h (fun hm => by
      obtain ⟨o, h1, _, h2, _⟩ := R.kind hm
      rw [h] at h1; exact h2 _ _ (Option.some.inj h1).symm) (fun ps z => nomatch z)⟩)
  · exact .inr h
theorem Rl.lstM (R : Rl c g S) (e : Ext g g') {a : Addr} {o : HO} (h : g.H a = some o) (hM : ¬ g.M a) (ht : ∀ ps, o ≠ .tbl ps) : g'.H a = some o ∧ ¬ g'.M a :=
  ⟨e.keep a _ h (fun hm => hM (R.mem a hm)) ht, fun hm => by
    rcases e.grow a hm with h1 | h1
    · exact hM h1
    · rw [h] at h1; cases h1⟩
mutual
theorem RD.mono (R : Rl c g S) (e : Ext g g') : ∀ (d : D) (v : V), RD c.K g d v → RD c.K g' d v
  | .non, v, h => h
  | .bl b, v, h => h
  | .int i, v, h => h
  | .str s, v, h => h
  | .tup ds, v, h => by
    obtain ⟨a, vs, rfl, h1, h2⟩ := h
    exact ⟨a, vs, rfl, R.sqT e h1, RDs.mono R e ds vs h2⟩
  | .lst ds, v, h => by
    obtain ⟨a, vs, rfl, h1, hM, h2⟩ := h
    obtain ⟨h3, h4⟩ := R.lstM e h1 hM (fun ps z => nomatch z)
    exact ⟨a, vs, rfl, h3, h4, RDs.mono R e ds vs h2⟩
  | .scr ns, v, h => by
    obtain ⟨a, rfl, h1⟩ := h
    exact ⟨a, rfl, h1.imp fun o h1 => e.keep a _ h1 (fun hm => by
      obtain ⟨o', h2, _, h3, _⟩ := R.kind hm
      rw [h1] at h2; exact h3 _ _ (Option.some.inj h2).symm) (fun ps z => nomatch z)⟩
theorem RDs.mono (R : Rl c g S) (e : Ext g g') : ∀ (ds : List D) (vs : List V), RDs c.K g ds vs → RDs c.K g' ds vs
  | [], vs, h => h
  | d :: ds, vs, h => by
    obtain ⟨v, vs', rfl, h1, h2⟩ := h
    exact ⟨v, vs', rfl, RD.mono R e d v h1, RDs.mono R e ds vs' h2⟩
end
theorem RW.mono (R : Rl c g S) (e : Ext g g') {w : W} {v : V} (h : RW c.K g w v) : RW c.K g' w v := by
  cases w with
  | d x => exact RD.mono R e x v h
  | loc n => obtain ⟨a, h1, rfl⟩ := h; exact ⟨a, e.pre n a h1, rfl⟩
theorem RWs.mono (R : Rl c g S) (e : Ext g g') : ∀ {ws : List W} {vs : List V}, RWs c.K g ws vs → RWs c.K g' ws vs
  | [], vs, h => h
  | w :: ws, vs, h => by
    obtain ⟨v, vs', rfl, h1, h2⟩ := h
    exact ⟨v, vs', rfl, h1.mono R e, RWs.mono R e h2⟩
theorem RKs.mono {κ : Type} (R : Rl c g S) (e : Ext g g') : ∀ {ws : List (κ × W)} {vs : List (κ × V)}, RKs c.K g ws vs → RKs c.K g' ws vs
  | [], vs, h => h
  | w :: ws, vs, h => by
    obtain ⟨v, vs', rfl, h1, h2⟩ := h
    exact ⟨v, vs', rfl, h1.mono R e, RKs.mono R e h2⟩
end
/-- the slots -/
structure EnvR (K : PySem.W.Frag) (g : Gh) (env : Env) (σ : L2.St) : Prop where
  len : env.length = σ.length
  at_ : ∀ (i : Nat) w, env[i]? = some (some w) → ∃ v, σ[i]? = some (some v) ∧ RW K g w v
theorem EnvR.mono {c : Cfg} {g g' : Gh} {S : Sto} {env : Env} {σ : L2.St} (R : Rl c g S) (e : Ext g g') (h : EnvR c.K g env σ) : EnvR c.K g' env σ :=
  ⟨h.len, fun i w hi => let ⟨v, h1, h2⟩ := h.at_ i w hi; ⟨v, h1, h2.mono R e⟩⟩
end Pc
set_option Elab.async false
set_option linter.all false
set_option maxRecDepth 100000
set_option autoImplicit false
set_option maxHeartbeats 1000000
/-! PcS1: what is wanted behind a step; new objects; operators by values -/
namespace Pc
open PySem PySem.Spec PyProof.Rows L2

/-- an expression by what is wanted -/
def WE (X : Cx) (e : Expr) : TE := fun σ H Q => ∀ pins s, Inv X pins σ H s → wpAny (model X.prog X.w) X.A (eval e X.env) (EP X pins σ Q) X.xe s
theorem pe_we (X : Cx) (e : Expr) : PE X e (WE X e) := ⟨fun pins s σ H Q I h => h pins s I⟩
theorem we_of {X : Cx} {e : Expr} {t : TE} (h : PE X e t) {σ : L2.St} {H : Hp} {Q : VK} (q : t σ H Q) : WE X e σ H Q := fun pins s I => h.run pins s σ H Q I q
def WT (X : Cx) (e : Expr) : TT := fun σ H Q => ∀ pins s, Inv X pins σ H s → wpAny (model X.prog X.w) X.A (isTrue e X.env (eval e X.env)) (TP X pins σ Q) X.xe s
theorem pt_wt (X : Cx) (e : Expr) : PT X e (WT X e) := ⟨fun pins s σ H Q I h => h pins s I⟩
theorem wt_of {X : Cx} {e : Expr} {t : TT} (h : PT X e t) {σ : L2.St} {H : Hp} {Q : Bool → Hp → Prop} (q : t σ H Q) : WT X e σ H Q := fun pins s I => h.run pins s σ H Q I q
def WA (X : Cx) (es : List Expr) : TA := fun σ H Q => ∀ pos pins s, Inv X pins σ H s → wpAny (model X.prog X.w) X.A (spliced (backTo pos (starEach es X.env))) (AP X pins σ Q) X.xe s
theorem pa_wa (X : Cx) (es : List Expr) : PA X es (WA X es) := ⟨fun pos pins s σ H Q I h => h pos pins s I⟩
theorem wa_of {X : Cx} {es : List Expr} {t : TA} (h : PA X es t) {σ : L2.St} {H : Hp} {Q : List V → Hp → Prop} (q : t σ H Q) : WA X es σ H Q := fun pos pins s I => h.run pos pins s σ H Q I q
theorem WE.mono {X : Cx} {e : Expr} {σ : L2.St} {H : Hp} {Q Q' : VK} (h : WE X e σ H Q) (hq : ∀ v H', Q v H' → Q' v H') : WE X e σ H Q' := fun pins s I =>
  thn (h pins s I) fun u s1 ⟨v, H1, I1, r, q⟩ => ⟨v, H1, I1, r, hq v H1 q⟩
theorem WA.mono {X : Cx} {es : List Expr} {σ : L2.St} {H : Hp} {Q Q' : List V → Hp → Prop} (h : WA X es σ H Q) (hq : ∀ v H', Q v H' → Q' v H') : WA X es σ H Q' := fun pos pins s I =>
  thn (h pos pins s I) fun u s1 ⟨v, H1, I1, r, q⟩ => ⟨v, H1, I1, r, hq v H1 q⟩

/-- how an exception stands in the heap -/
def ExR (c : Cfg) (x : Ex) (cls : Value) (d : Option Addr) (H : Hp) : Prop :=
  ∃ C, c.ca x.cls = some C ∧ cls = .ref C
section
variable (c : Cfg) (Wx : WX) (σ : L2.St)
/-- what is wanted behind, of whatever kind -/
structure PP (β : Type) where
  p : Gh → R β → Prop
  mono : ∀ {g g' r}, Ext g g' → p g r → p g' r
  exc : ∀ {g x S}, p g (.exc x S) → ∀ cls d g', Ext g g' → Rl c g' S → ExR c x cls d g'.H → Wx cls d σ g'.H
  err : ∀ {g}, ¬ p g .err
/-- results that stand in the heap -/
def Pst {α ν : Type} (rel : Gh → α → ν → Prop) (Q : ν → Hp → Prop) (g : Gh) (r : R α) : Prop := match r with
  | .ok a S => ∀ v g', Ext g g' → Rl c g' S → rel g' a v → Q v g'.H
  | .exc x S => ∀ cls d g', Ext g g' → Rl c g' S → ExR c x cls d g'.H → Wx cls d σ g'.H
  | .err => False
def ppst {α ν : Type} (rel : Gh → α → ν → Prop) (Q : ν → Hp → Prop) : PP c Wx σ α where
  p := Pst c Wx σ rel Q
  mono := fun {g g' r} e h => match r, h with
    | .ok a S, h => fun v g2 e2 R q => h v g2 (e.trans e2) R q
    | .exc x S, h => fun cls d g2 e2 R q => h cls d g2 (e.trans e2) R q
    | .err, h => h
  exc := fun h => h
  err := fun h => h
abbrev PostW (Q : VK) : PP c Wx σ W := ppst c Wx σ (fun g w v => RW c.K g w v) Q
abbrev PostL (Q : List V → Hp → Prop) : PP c Wx σ (List W) := ppst c Wx σ (fun g w v => RWs c.K g w v) Q
abbrev PostB (Q : Bool → Hp → Prop) : PP c Wx σ Bool := ppst c Wx σ (fun _ w v => w = v) Q
end
section
variable {c : Cfg} {Wx : WX} {σ : L2.St}
theorem PP.ofO {α β : Type} (P : PP c Wx σ β) {g : Gh} {o : Option α} {S : Sto} {f : α → Sto → R β} (h : P.p g ((Pc.ofO o S).bind f)) : ∃ a, o = some a ∧ P.p g (f a S) := by
  cases o with
  | none => exact (P.err h).elim
  | some a => exact ⟨a, rfl, h⟩
theorem PP.ofO1 {α : Type} (P : PP c Wx σ α) {g : Gh} {o : Option α} {S : Sto} (h : P.p g (Pc.ofO o S)) : ∃ a, o = some a ∧ P.p g (.ok a S) := by
  cases o with
  | none => exact (P.err h).elim
  | some a => exact ⟨a, rfl, h⟩
theorem PP.ite {α : Type} (P : PP c Wx σ α) {g : Gh} {q : Prop} [Decidable q] {r : R α} (h : P.p g (if q then r else .err)) : q ∧ P.p g r := by
  by_cases hq : q
  · rw [if_pos hq] at h; exact ⟨hq, h⟩
  · rw [if_neg hq] at h; exact (P.err h).elim
end

/-! ### new objects -/
section
variable {c : Cfg} {g : Gh} {S : Sto} {p : Addr} {o : HO}
/-- the heap with a new object that is data -/
def Gh.put (g : Gh) (p : Addr) (o : HO) : Gh := { g with H := upd g.H p o }
theorem CellR.mono {c : Cfg} {g g' : Gh} {S : Sto} (R : Rl c g S) (e : Ext g g') {a : Addr} {ce : Cell} (h : CellR c g a ce) (ha : g'.H a = g.H a) : CellR c g' a ce := by
  cases ce with
  | lst ws => obtain ⟨vs, h1, h2⟩ := h; exact ⟨vs, ha.trans h1, h2.mono R e⟩
  | dct ws => obtain ⟨vs, h1, h2⟩ := h; exact ⟨vs, ha.trans h1, h2.mono R e⟩
  | ins cl ws => obtain ⟨C, dx, vs, h0, h1, h2⟩ := h; exact ⟨C, dx, vs, h0, ha.trans h1, h2.mono R e⟩
theorem ext_put (R : Rl c g S) (hp : g.H p = none) : Ext g (g.put p o) where
  pre := fun _ _ h => h
  keep := fun b u h _ _ => by
    show upd g.H p o b = some u
    rw [upd_ne (ne_of_none h hp)]; exact h
  grow := fun _ h => .inl h
  old := fun _ h => h
  fresh := fun n a h hn => by rw [show (g.put p o).r = g.r from rfl, List.getElem?_eq_none hn] at h; cases h
  st := fun b h => by
    show upd g.H p o b ≠ none
    by_cases hb : b = p
    · rw [hb, upd_same]; exact fun z => nomatch z
    · rw [upd_ne hb]; exact h
theorem rl_put (R : Rl c g S) (hp : g.H p = none) : Rl c (g.put p o) S where
  len := R.len
  nd := R.nd
  mem := R.mem
  cell := fun n ce a h1 h2 => by
    have h3 := R.cell n ce a h1 h2
    refine h3.mono R (ext_put R hp) ?_
    show upd g.H p o a = g.H a
    refine upd_ne fun z => ?_
    have h4 := R.some_ a (R.mem a (List.mem_of_getElem? h2))
    rw [z] at h4; exact h4 hp
  tab := fun P hP => by
    obtain ⟨ps, h1, h2⟩ := R.tab P hP
    exact ⟨ps, by show upd g.H p o P = _; rw [upd_ne (ne_of_none h1 hp)]; exact h1, h2⟩
  some_ := fun a h => (ext_put R hp).st a (R.some_ a h)
theorem not_M (R : Rl c g S) (hp : g.H p = none) : ¬ g.M p := fun h => R.some_ p h hp
/-- the heap with a new cell -/
def Gh.cell (g : Gh) (p : Addr) (o : HO) : Gh := { M := fun b => g.M b ∨ b = p, r := g.r ++ [p], H := upd g.H p o }
theorem ext_cell (R : Rl c g S) (hp : g.H p = none) : Ext g (g.cell p o) where
  pre := fun n a h => by
    show (g.r ++ [p])[n]? = some a
    rw [List.getElem?_append_left (List.getElem?_eq_some_iff.mp h).1]; exact h
  keep := fun b u h _ _ => by
    show upd g.H p o b = some u
    rw [upd_ne (ne_of_none h hp)]; exact h
  grow := fun b h => h.elim .inl fun e => .inr (by rw [e]; exact hp)
  old := fun _ h => .inl h
  fresh := fun n a h hn => by
    have h1 : (g.r ++ [p])[n]? = some a := h
    rw [List.getElem?_append_right hn] at h1
    have h2 : a ∈ [p] := List.mem_of_getElem? h1
    rw [List.mem_singleton.mp h2]; exact hp
  st := fun b h => by
    show upd g.H p o b ≠ none
    by_cases hb : b = p
    · rw [hb, upd_same]; exact fun z => nomatch z
    · rw [upd_ne hb]; exact h
theorem rl_cell (R : Rl c g S) (hp : g.H p = none) {ce : Cell} (hc : CellR c (g.cell p o) p ce) : Rl c (g.cell p o) (S ++ [ce]) where
  len := by show (g.r ++ [p]).length = (S ++ [ce]).length; rw [List.length_append, List.length_append, R.len]; rfl
  nd := by
    show (g.r ++ [p]).Nodup
    rw [List.nodup_append]
    refine ⟨R.nd, by simp, fun a ha b hb => ?_⟩
    rw [List.mem_singleton.mp hb]
    intro z
    exact R.some_ a (R.mem a ha) (by rw [z]; exact hp)
  mem := fun a ha => by
    have h1 : a ∈ g.r ++ [p] := ha
    rcases List.mem_append.mp h1 with h2 | h2
    · exact .inl (R.mem a h2)
    · exact .inr (List.mem_singleton.mp h2)
  cell := fun n ce' a h1 h2 => by
    have h3 : (g.r ++ [p])[n]? = some a := h2
    by_cases hn : n < S.length
    · rw [List.getElem?_append_left hn] at h1
      rw [List.getElem?_append_left (by rw [R.len]; exact hn)] at h3
      refine (R.cell n ce' a h1 h3).mono R (ext_cell R hp) ?_
      show upd g.H p o a = g.H a
      refine upd_ne fun z => ?_
      have h4 := R.some_ a (R.mem a (List.mem_of_getElem? h3))
      rw [z] at h4; exact h4 hp
    · rw [List.getElem?_append_right (by omega)] at h1
      rw [List.getElem?_append_right (by rw [R.len]; omega)] at h3
      have e1 : ce' ∈ [ce] := List.mem_of_getElem? h1
      have e2 : a ∈ [p] := List.mem_of_getElem? h3
      rw [List.mem_singleton.mp e1, List.mem_singleton.mp e2]; exact hc
  tab := fun P hP => by
    obtain ⟨ps, h1, h2⟩ := R.tab P hP
    exact ⟨ps, by show upd g.H p o P = _; rw [upd_ne (ne_of_none h1 hp)]; exact h1, h2⟩
  some_ := fun a h => h.elim (fun h => (ext_cell R hp).st a (R.some_ a h)) fun e => by
    rw [e]; show upd g.H p o p ≠ none; rw [upd_same]; exact fun z => nomatch z
/-- a cell changed -/
theorem cell_set (R : Rl c g S) {n : Nat} {a : Addr} {ce ce' : Cell} (hn : g.r[n]? = some a) (hs : S[n]? = some ce) (ho : ∀ ps, o ≠ .tbl ps) (hx : ∀ x, o ≠ .own x) (hc : CellR c (g.put a o) a ce') : Ext g (g.put a o) ∧ Rl c (g.put a o) (S.set n ce') := by
  have ha : a ∈ g.r := List.mem_of_getElem? hn
  have e : Ext g (g.put a o) := {
    pre := fun _ _ h => h
    keep := fun b u h hr _ => by
      show upd g.H a o b = some u
      rw [upd_ne (fun z => hr (by rw [z]; exact ha))]; exact h
    grow := fun _ h => .inl h
    old := fun _ h => h
    fresh := fun n a' h hn => by rw [show (g.put a o).r = g.r from rfl, List.getElem?_eq_none hn] at h; cases h
    st := fun b h => by
      show upd g.H a o b ≠ none
      by_cases hb : b = a
      · rw [hb, upd_same]; exact fun z => nomatch z
      · rw [upd_ne hb]; exact h }
  refine ⟨e, R.len.trans (List.length_set ..).symm, R.nd, R.mem, fun m ce2 b h1 h2 => ?_, fun P hP => ?_, fun b h => e.st b (R.some_ b h)⟩
  · by_cases hm : m = n
    · subst hm
      have h2' : g.r[m]? = some b := h2
      rw [hn] at h2'
      have hl : m < S.length := (List.getElem?_eq_some_iff.mp hs).1
      rw [List.getElem?_set_self hl] at h1
      rw [← Option.some.inj h2', ← Option.some.inj h1]; exact hc
    · rw [List.getElem?_set_ne (Ne.symm hm)] at h1
      have h2' : g.r[m]? = some b := h2
      refine (R.cell m ce2 b h1 h2').mono R e ?_
      show upd g.H a o b = g.H b
      refine upd_ne fun z => hm ?_
      rw [z] at h2'
      obtain ⟨l1, e1⟩ := List.getElem?_eq_some_iff.mp h2'
      obtain ⟨l2, e2⟩ := List.getElem?_eq_some_iff.mp hn
      exact (List.getElem_inj R.nd).mp (e1.trans e2.symm)
  · obtain ⟨ps, h1, h2⟩ := R.tab P hP
    refine ⟨ps, ?_, h2⟩
    show upd g.H a o P = _
    rw [upd_ne (fun z => ?_)]
    · exact h1
    · obtain ⟨o', q1, _, _, q2⟩ := R.kind ha
      rw [← z, h1] at q1
      exact q2 ps (Option.some.inj q1).symm
end
/-! ### lists of data -/
section
variable {K : PySem.W.Frag} {g : Gh}
theorem RWs.ofD : ∀ {ds : List D} {vs : List V}, RDs K g ds vs → RWs K g (ds.map .d) vs
  | [], _, h => h
  | _ :: _, _, ⟨v, vs', e, h1, h2⟩ => ⟨v, vs', e, h1, RWs.ofD h2⟩
theorem RDs.ofW : ∀ {ws : List W} {ds : List D} {vs : List V}, allD ws = some ds → RWs K g ws vs → RDs K g ds vs
  | [], ds, vs, h, r => by cases h; exact r
  | .d x :: ws, ds, vs, h, r => by
    cases e : allD ws with
    | none => simp only [allD, e, Option.map_none] at h; cases h
    | some es =>
      simp only [allD, e, Option.map_some] at h
      cases h
      obtain ⟨v, vs', ev, h1, h2⟩ := r
      exact ⟨v, vs', ev, h1, RDs.ofW e h2⟩
  | .loc n :: ws, ds, vs, h, r => by cases h
theorem RWs.int : ∀ {ws : List W} {ns : List Int} {vs : List V}, allI ws = some ns → RWs K g ws vs → vs = ns.map V.int
  | [], ns, vs, h, r => by cases h; exact r
  | .d (.int i) :: ws, ns, vs, h, r => by
    cases e : allI ws with
    | none => simp only [allI, e, Option.map_none] at h; cases h
    | some es =>
      simp only [allI, e, Option.map_some] at h
      cases h
      obtain ⟨v, vs', rfl, h1, h2⟩ := r
      have h1' : v = .int i := h1
      rw [h1', RWs.int e h2]; rfl
  | .d .non :: ws, ns, vs, h, r => by cases h
  | .d (.bl _) :: ws, ns, vs, h, r => by cases h
  | .d (.str _) :: ws, ns, vs, h, r => by cases h
  | .d (.tup _) :: ws, ns, vs, h, r => by cases h
  | .d (.lst _) :: ws, ns, vs, h, r => by cases h
  | .d (.scr _) :: ws, ns, vs, h, r => by cases h
  | .loc n :: ws, ns, vs, h, r => by cases h
theorem RWs.ints : ∀ {ns : List Int}, RWs K g (ns.map fun i => .d (.int i)) (ns.map V.int)
  | [] => rfl
  | n :: ns => ⟨_, _, rfl, rfl, RWs.ints⟩
theorem RDs.ints : ∀ {ns : List Int}, RDs K g (ns.map .int) (ns.map V.int)
  | [] => rfl
  | n :: ns => ⟨_, _, rfl, rfl, RDs.ints⟩
theorem RWs.length : ∀ {ws : List W} {vs : List V}, RWs K g ws vs → ws.length = vs.length
  | [], _, h => by rw [show _ = ([] : List V) from h]; rfl
  | _ :: _, _, ⟨v, vs', e, _, h2⟩ => by rw [e]; simp [RWs.length h2]
theorem RDs.length : ∀ {ws : List D} {vs : List V}, RDs K g ws vs → ws.length = vs.length
  | [], _, h => by rw [show _ = ([] : List V) from h]; rfl
  | _ :: _, _, ⟨v, vs', e, _, h2⟩ => by rw [e]; simp [RDs.length h2]
theorem RWs.get : ∀ {ws : List W} {vs : List V} {i : Nat} {w : W}, RWs K g ws vs → ws[i]? = some w → ∃ v, vs[i]? = some v ∧ RW K g w v
  | [], _, i, w, _, h => by simp at h
  | x :: ws, _, 0, w, ⟨v, vs', e, h1, h2⟩, h => by rw [e]; cases h; exact ⟨v, rfl, h1⟩
  | x :: ws, _, i + 1, w, ⟨v, vs', e, h1, h2⟩, h => by rw [e]; exact RWs.get (i := i) h2 h
theorem RWs.append : ∀ {ws ws' : List W} {vs vs' : List V}, RWs K g ws vs → RWs K g ws' vs' → RWs K g (ws ++ ws') (vs ++ vs')
  | [], ws', _, vs', h, h' => by rw [show _ = ([] : List V) from h]; exact h'
  | _ :: _, ws', _, vs', ⟨v, vs2, e, h1, h2⟩, h' => by rw [e]; exact ⟨v, _, rfl, h1, RWs.append h2 h'⟩
theorem RDs.append : ∀ {ws ws' : List D} {vs vs' : List V}, RDs K g ws vs → RDs K g ws' vs' → RDs K g (ws ++ ws') (vs ++ vs')
  | [], ws', _, vs', h, h' => by rw [show _ = ([] : List V) from h]; exact h'
  | _ :: _, ws', _, vs', ⟨v, vs2, e, h1, h2⟩, h' => by rw [e]; exact ⟨v, _, rfl, h1, RDs.append h2 h'⟩
theorem RDs.drop : ∀ {ws : List D} {vs : List V} (n : Nat), RDs K g ws vs → RDs K g (ws.drop n) (vs.drop n)
  | [], _, n, h => by rw [show _ = ([] : List V) from h]; cases n <;> rfl
  | _ :: _, _, 0, h => h
  | _ :: _, _, n + 1, ⟨v, vs2, e, h1, h2⟩ => by rw [e]; exact RDs.drop n h2
theorem RDs.take : ∀ {ws : List D} {vs : List V} (n : Nat), RDs K g ws vs → RDs K g (ws.take n) (vs.take n)
  | [], _, n, h => by rw [show _ = ([] : List V) from h]; cases n <;> rfl
  | _ :: _, _, 0, h => rfl
  | _ :: _, _, n + 1, ⟨v, vs2, e, h1, h2⟩ => by rw [e]; exact ⟨v, _, rfl, h1, RDs.take n h2⟩
theorem RDs.rep {ws : List D} {vs : List V} (h : RDs K g ws vs) : ∀ n : Nat, RDs K g (List.replicate n ws).flatten (List.replicate n vs).flatten
  | 0 => rfl
  | n + 1 => by rw [List.replicate_succ, List.replicate_succ, List.flatten_cons, List.flatten_cons]; exact h.append (RDs.rep h n)
theorem RWs.set : ∀ {ws : List W} {vs : List V} (i : Nat) {w : W} {v : V}, RWs K g ws vs → RW K g w v → RWs K g (ws.set i w) (vs.set i v)
  | [], _, i, w, v, h, _ => by rw [show _ = ([] : List V) from h]; rfl
  | _ :: _, _, 0, w, v, ⟨v', vs2, e, h1, h2⟩, h => by rw [e]; exact ⟨_, _, rfl, h, h2⟩
  | _ :: _, _, i + 1, w, v, ⟨v', vs2, e, h1, h2⟩, h => by rw [e]; exact ⟨_, _, rfl, h1, RWs.set i h2 h⟩
end
end Pc
set_option Elab.async false
set_option linter.all false
set_option maxRecDepth 100000
set_option autoImplicit false
set_option maxHeartbeats 1000000
/-! PcS2: operators by values -/
namespace Pc
open PySem PySem.Spec PyProof.Rows L2

/-- some rule serves -/
def rAny (X : Cx) (f : Value → Value → Sem Value) : R2 := fun x y H Q => ∃ r, OpR X f r ∧ r x y H Q
theorem op_any (X : Cx) (f : Value → Value → Sem Value) : OpR X f (rAny X f) := fun pins s σ H x y v u Q I rx ry ⟨r, h, q⟩ => h pins s σ H x y v u Q I rx ry q
def bop : BOp → Operator
  | .add => .Add | .sub => .Sub | .mul => .Mult | .fdiv => .FloorDiv | .mod => .Mod | .pow => .Pow
def cop : COp → CmpOp
  | .eq => .Eq | .ne => .NotEq | .lt => .Lt | .le => .LtE | .gt => .Gt | .ge => .GtE | .is => .Is | .nis => .IsNot | .inn => .In | .nin => .NotIn
theorem maxLen_eq : maxLen = sizeLine := by rw [sizeLine_eq]; rfl

section
variable {X : Cx} {c : Cfg} {Wx : WX} {σ : L2.St} {g : Gh} {S : Sto} {Q : VK}
/-- a result that is data, in the heap as it stands -/
theorem ret_d {w : W} {v : V} (R : Rl c g S) (r : RW c.K g w v) (h : (PostW c Wx σ Q).p g (.ok w S)) : Q v g.H := h v g (Ext.refl g) R r
theorem ret_int {i : Int} (R : Rl c g S) (h : (PostW c Wx σ Q).p g (.ok (.d (.int i)) S)) : Q (.int i) g.H := h _ g (Ext.refl g) R rfl
theorem ret_bl {i : Bool} (R : Rl c g S) (h : (PostW c Wx σ Q).p g (.ok (.d (.bl i)) S)) : Q (.bl i) g.H := h _ g (Ext.refl g) R rfl
theorem ret_str {i : Str} (R : Rl c g S) (h : (PostW c Wx σ Q).p g (.ok (.d (.str i)) S)) : Q (.str i) g.H := h _ g (Ext.refl g) R rfl
/-- a new tuple -/
theorem ret_tup {ds : List D} {vs : List V} (R : Rl c g S) (r : RDs c.K g ds vs) (h : (PostW c Wx σ Q).p g (.ok (.d (.tup ds)) S)) : ∀ p, g.H p = none → Q (.ref p) (upd g.H p (.tup vs)) := fun p hp => by
  have e := ext_put (o := .tup vs) R hp
  exact h (.ref p) (g.put p (.tup vs)) e (rl_put R hp) ⟨p, vs, rfl, .inl (.inl upd_same), RDs.mono R e _ _ r⟩
/-- a new list that is data -/
theorem ret_lst {ds : List D} {vs : List V} (R : Rl c g S) (r : RDs c.K g ds vs) (h : (PostW c Wx σ Q).p g (.ok (.d (.lst ds)) S)) : ∀ p, g.H p = none → Q (.ref p) (upd g.H p (.lst vs)) := fun p hp => by
  have e := ext_put (o := .lst vs) R hp
  exact h (.ref p) (g.put p (.lst vs)) e (rl_put R hp) ⟨p, vs, rfl, upd_same, show ¬ g.M p from not_M R hp, RDs.mono R e _ _ r⟩
/-- a new cell -/
theorem ret_cell {ws : List W} {vs : List V} (R : Rl c g S) (r : RWs c.K g ws vs) (h : (PostW c Wx σ Q).p g (.ok (.loc S.length) (S ++ [.lst ws]))) : ∀ p, g.H p = none → Q (.ref p) (upd g.H p (.lst vs)) := fun p hp => by
  have e := ext_cell (o := .lst vs) R hp
  have R' : Rl c (g.cell p (.lst vs)) (S ++ [.lst ws]) := rl_cell R hp ⟨vs, upd_same, r.mono R e⟩
  refine h (.ref p) (g.cell p (.lst vs)) e R' ⟨p, ?_, rfl⟩
  show (g.r ++ [p])[S.length]? = some p
  rw [← R.len, List.getElem?_append_right (Nat.le_refl _), Nat.sub_self]; rfl

theorem bin_ok (o : BOp) {x y : W} {v u : V} (R : Rl c g S) (rx : RW c.K g x v) (ry : RW c.K g y u) (h : (PostW c Wx σ Q).p g (binW o x y S)) (hK : X.K = c.K) : rAny X (binaryOp (bop o)) v u g.H Q := by
  unfold binW at h
  split at h
  · cases rx; cases ry; exact ⟨_, op_add, _, _, rfl, rfl, ret_int R h⟩
  · cases rx; cases ry; exact ⟨_, op_sub, _, _, rfl, rfl, ret_int R h⟩
  · cases rx; cases ry
    obtain ⟨hq, h⟩ := PP.ite _ h
    exact ⟨_, op_mul, _, _, rfl, rfl, (by unfold mulOk at hq; have z := of_decide_eq_true hq; exact z), ret_int R h⟩
  · cases rx; cases ry
    obtain ⟨hq, h⟩ := PP.ite _ h
    exact ⟨_, op_fdiv, _, _, rfl, rfl, hq, ret_int R h⟩
  · cases rx; cases ry
    obtain ⟨hq, h⟩ := PP.ite _ h
    exact ⟨_, op_mod, _, _, rfl, rfl, hq, ret_int R h⟩
  · cases rx; cases ry
    obtain ⟨hq, h⟩ := PP.ite _ h
    exact ⟨_, op_pow, _, _, rfl, rfl, hq, ret_int R h⟩
  · rename_i xs ys
    obtain ⟨hq, h⟩ := PP.ite _ h
    obtain ⟨a, vs, rfl, ha, rx⟩ := rx
    obtain ⟨b, us, rfl, hb, ry⟩ := ry
    rw [← hK] at ha hb
    refine ⟨_, op_catA, a, b, vs, us, rfl, rfl, ha, hb, ?_, fun e => ?_, fun e1 e2 => ?_, fun _ _ p hp => ret_tup R (rx.append ry) h p hp⟩
    · rw [← rx.length, ← ry.length, ← maxLen_eq]; exact hq
    · subst e
      cases xs with
      | nil => exact ret_d R (w := .d (.tup ys)) ⟨b, us, rfl, hK ▸ hb, ry⟩ h
      | cons z zs => obtain ⟨_, _, e, _⟩ := rx; cases e
    · subst e2
      cases ys with
      | nil => rw [List.append_nil] at h; exact ret_d R (w := .d (.tup xs)) ⟨a, vs, rfl, hK ▸ ha, rx⟩ h
      | cons z zs => obtain ⟨_, _, e, _⟩ := ry; cases e
  · rename_i xs ys
    obtain ⟨hq, h⟩ := PP.ite _ h
    obtain ⟨a, vs, rfl, ha, _, rx⟩ := rx
    obtain ⟨b, us, rfl, hb, _, ry⟩ := ry
    refine ⟨_, op_cat, a, b, vs, us, rfl, rfl, ha, hb, ?_, fun p hp => ret_lst R (rx.append ry) h p hp⟩
    rw [← rx.length, ← ry.length, ← maxLen_eq]; exact hq
  · rename_i xs k
    obtain ⟨⟨q1, q2, q3, q4⟩, h⟩ := PP.ite _ h
    obtain ⟨a, vs, rfl, ha, rx⟩ := rx
    cases ry
    rw [← hK] at ha
    refine ⟨_, op_repT, a, k, vs, rfl, rfl, ha, fun e => q1 ?_, q2, q3, rx.length ▸ q4, fun p hp => ret_tup R (rx.rep _) h p hp⟩
    have e2 := rx.length
    rw [e] at e2
    exact List.length_eq_zero_iff.mp e2
  · rename_i xs k
    obtain ⟨⟨q1, q2, q3⟩, h⟩ := PP.ite _ h
    obtain ⟨a, vs, rfl, ha, _, rx⟩ := rx
    cases ry
    refine ⟨_, op_rep, a, k, vs, rfl, rfl, ha, by omega, q2, ?_, fun p hp => ret_lst R (rx.rep _) h p hp⟩
    rw [← rx.length, ← maxLen_eq]; exact q3
  · exact h.elim

/-! ### equality -/
mutual
def toPy : D → PyData
  | .non => .none
  | .bl b => .bool b
  | .int i => .int i
  | .str s => .str s
  | .tup xs => .tuple (toPys xs)
  | .lst xs => .list (toPys xs)
  | .scr _ => .none
def toPys : List D → List PyData
  | [] => []
  | x :: xs => toPy x :: toPys xs
end
mutual
theorem toPy_eq : ∀ (x y : D), sok x = true → sok y = true → PyData.eqv (toPy x) (toPy y) = eqD x y
  | .non, y, _, hy => by cases y <;> simp_all [toPy, PyData.eqv, eqD, sok]
  | .bl a, y, _, hy => by cases y <;> simp_all [toPy, PyData.eqv, eqD, sok]
  | .int a, y, _, hy => by cases y <;> simp_all [toPy, PyData.eqv, eqD, sok]
  | .str a, y, _, hy => by cases y <;> simp_all [toPy, PyData.eqv, eqD, sok]
  | .tup a, y, hx, hy => by
    cases y with
    | tup b => simp only [toPy, PyData.eqv, eqD]; exact toPys_eq a b hx hy
    | _ => simp_all [toPy, PyData.eqv, eqD, sok]
  | .lst a, y, hx, hy => by
    cases y with
    | lst b => simp only [toPy, PyData.eqv, eqD]; exact toPys_eq a b hx hy
    | _ => simp_all [toPy, PyData.eqv, eqD, sok]
  | .scr a, y, hx, _ => by simp [sok] at hx
theorem toPys_eq : ∀ (x y : List D), soks x = true → soks y = true → PyData.eqvAll (toPys x) (toPys y) = eqDs x y
  | [], [], _, _ => rfl
  | [], y :: ys, _, _ => by simp [toPys, PyData.eqvAll, eqDs]
  | x :: xs, [], _, _ => by simp [toPys, PyData.eqvAll, eqDs]
  | x :: xs, y :: ys, hx, hy => by
    simp only [soks, Bool.and_eq_true] at hx hy
    simp only [toPys, PyData.eqvAll, eqDs, toPy_eq x y hx.1 hy.1, toPys_eq xs ys hx.2 hy.2]
end
mutual
theorem toPy_lay : ∀ x : D, sok x = true → (toPy x).canLay0 = true
  | .non, _ => rfl
  | .bl _, _ => rfl
  | .int _, _ => rfl
  | .str _, h => h
  | .tup xs, h => toPys_lay xs h
  | .lst xs, h => toPys_lay xs h
  | .scr _, h => by cases h
theorem toPys_lay : ∀ x : List D, soks x = true → PyData.canLayAll0 (toPys x) = true
  | [], _ => rfl
  | x :: xs, h => by
    simp only [soks, Bool.and_eq_true] at h
    simp only [toPys, PyData.canLayAll0, toPy_lay x h.1, toPys_lay xs h.2, Bool.and_self]
end
mutual
theorem toPy_dep : ∀ x : D, (toPy x).depth ≤ dep x + 1
  | .non => by simp [toPy, dep, PyData.depth]
  | .bl _ => by simp [toPy, dep, PyData.depth]
  | .int _ => by simp [toPy, dep, PyData.depth]
  | .str _ => by simp [toPy, dep, PyData.depth]
  | .tup xs => by have := toPys_dep xs; simp only [toPy, dep, PyData.depth]; omega
  | .lst xs => by have := toPys_dep xs; simp only [toPy, dep, PyData.depth]; omega
  | .scr _ => by simp [toPy, dep, PyData.depth]
theorem toPys_dep : ∀ x : List D, PyData.depthAll (toPys x) ≤ deps x + 1
  | [] => by simp [toPys, deps, PyData.depthAll]
  | x :: xs => by have := toPy_dep x; have := toPys_dep xs; simp only [toPys, deps, PyData.depthAll]; omega
end
theorem toPy_shaped {x : D} (h : shp x = true) : SeqAt.shaped (toPy x) = true := by
  unfold shp at h
  rw [Bool.and_eq_true] at h
  have h2 := of_decide_eq_true h.2
  have h3 := toPy_dep x
  unfold SeqAt.shaped
  rw [Bool.and_eq_true]
  exact ⟨toPy_lay x h.1, decide_eq_true (by omega)⟩
mutual
theorem dp_of : ∀ (x : D) (v : V), sok x = true → RD c.K g x v → Dp c.K g.H v (toPy x)
  | .non, v, _, h => by cases h; exact .non
  | .bl b, v, _, h => by cases h; exact .bl b
  | .int i, v, _, h => by cases h; exact .int i
  | .str s, v, _, h => by cases h; exact .str s
  | .tup xs, v, s, h => by obtain ⟨a, vs, rfl, h1, h2⟩ := h; exact .tup h1 (dps_of xs vs s h2)
  | .lst xs, v, s, h => by obtain ⟨a, vs, rfl, h1, _, h2⟩ := h; exact .lst (.inl (.inl h1)) (dps_of xs vs s h2)
  | .scr ns, v, s, h => by cases s
theorem dps_of : ∀ (x : List D) (v : List V), soks x = true → RDs c.K g x v → DpAll c.K g.H v (toPys x)
  | [], v, _, h => by cases h; exact .nil
  | x :: xs, v, s, h => by
    simp only [soks, Bool.and_eq_true] at s
    obtain ⟨v1, vs, rfl, h1, h2⟩ := h
    exact .cons (dp_of x v1 s.1 h1) (dps_of xs vs s.2 h2)
end
theorem rd_dp {w : W} {v : V} {x : D} (R : Rl c g S) (r : RW c.K g w v) (h : rdD S w = some x) (hs : sok x = true) : Dp c.K g.H v (toPy x) := by
  cases w with
  | d y => simp only [rdD] at h; cases h; exact dp_of _ v hs r
  | loc n =>
    obtain ⟨a, hn, rfl⟩ := r
    simp only [rdD] at h
    split at h
    · rename_i ws hw
      have hl : n < S.length := (List.getElem?_eq_some_iff.mp hw).1
      obtain ⟨vs, h1, h2⟩ := R.cell n _ a hw hn
      cases e : allD ws with
      | none => rw [e] at h; cases h
      | some ds =>
        rw [e] at h; cases h
        exact .lst (.inl (.inl h1)) (dps_of ds vs hs (RDs.ofW e h2))
    · cases h
theorem eqW_ok {x y : W} {v u : V} {b : Bool} (R : Rl c g S) (rx : RW c.K g x v) (ry : RW c.K g y u) (h : eqW x y S = some b) :
    (scal v u = true ∧ decide (v = u) = b) ∨ ∃ d e, Dp c.K g.H v d ∧ Dp c.K g.H u e ∧ SeqAt.shaped d = true ∧ SeqAt.shaped e = true ∧ PyData.eqv d e = b := by
  unfold eqW at h
  split at h
  · cases rx; cases ry; cases h; exact .inl ⟨rfl, dec_int⟩
  · cases rx; cases ry; cases h; exact .inl ⟨rfl, dec_str⟩
  · right
    split at h
    · rename_i a b' ha hb
      by_cases hq : (shp a && shp b') = true
      · rw [if_pos hq] at h
        rw [Bool.and_eq_true] at hq
        have s1 : sok a = true := (Bool.and_eq_true_iff.mp hq.1).1
        have s2 : sok b' = true := (Bool.and_eq_true_iff.mp hq.2).1
        exact ⟨_, _, rd_dp R rx ha s1, rd_dp R ry hb s2, toPy_shaped hq.1, toPy_shaped hq.2, by rw [toPy_eq a b' s1 s2]; exact Option.some.inj h⟩
      · rw [if_neg hq] at h; cases h
    · cases h
theorem flat_v {d : D} {v : V} (r : RD c.K g d v) (h : isFlat d = true) : flatV v = true := by
  cases d <;> first | (cases r; rfl) | cases h
theorem flat_vs : ∀ {ds : List D} {vs : List V}, RDs c.K g ds vs → ds.all isFlat = true → vs.all flatV = true
  | [], _, r, _ => by rw [show _ = ([] : List V) from r]; rfl
  | d :: ds, _, ⟨v, vs, e, r1, r2⟩, h => by
    rw [e]
    rw [List.all_cons, Bool.and_eq_true] at h ⊢
    exact ⟨flat_v r1 h.1, flat_vs r2 h.2⟩
theorem eqV_d {x y : D} {v u : V} (r : RD c.K g x v) (r' : RD c.K g y u) (h : isFlat x = true) (h' : isFlat y = true) : eqV v u = eqD x y := by
  cases x <;> first | (cases h; done) | (cases r; cases y <;> first | (cases h'; done) | (cases r'; simp [eqV, eqD]))
theorem inV_d {x : D} {v : V} (r : RD c.K g x v) (h : isFlat x = true) : ∀ {ds : List D} {vs : List V}, RDs c.K g ds vs → ds.all isFlat = true → inV v vs = ds.any fun y => eqD y x
  | [], _, r2, _ => by rw [show _ = ([] : List V) from r2]; rfl
  | d :: ds, _, ⟨u, us, e, r1, r2⟩, h2 => by
    rw [e]
    rw [List.all_cons, Bool.and_eq_true] at h2
    have ih := inV_d r h r2 h2.2
    unfold inV at ih ⊢
    rw [List.any_cons, List.any_cons, ih, eqV_d r1 r h2.1 h]
end
end Pc
set_option Elab.async false
set_option linter.all false
set_option maxRecDepth 100000
set_option autoImplicit false
set_option maxHeartbeats 1000000
/-! PcS3: comparisons, subscripts, slices, built-in functions and methods by values -/
namespace Pc
open PySem PySem.Spec PyProof.Rows L2

section
variable {X : Cx} {c : Cfg} {Wx : WX} {σ : L2.St} {g : Gh} {S : Sto} {Q : VK}
/-! ### dicts -/
theorem RKs.val : ∀ {kvs : List (Key × W)} {kvs' : List (Key × V)} (k : Key), RKs c.K g kvs kvs' → match Pc.valK kvs k with
    | some w => ∃ v, valV kvs' k = some v ∧ RW c.K g w v
    | none => valV kvs' k = none
  | [], _, k, h => by rw [show _ = ([] : List (Key × V)) from h]; rfl
  | (q, w) :: r, _, k, ⟨v, vs', e, h1, h2⟩ => by
    rw [e]
    unfold Pc.valK valV
    rw [List.find?_cons, List.find?_cons]
    by_cases hq : q = k
    · simp only [hq, decide_true]
      exact ⟨v, rfl, h1⟩
    · simp only [hq, decide_false]
      exact RKs.val k h2
theorem RKs.val_some {kvs : List (Key × W)} {kvs' : List (Key × V)} {k : Key} {w : W} (r : RKs c.K g kvs kvs') (h : Pc.valK kvs k = some w) : ∃ v, valV kvs' k = some v ∧ RW c.K g w v := by
  have q := RKs.val k r
  rw [h] at q; exact q
theorem RKs.isSome {kvs : List (Key × W)} {kvs' : List (Key × V)} (k : Key) (r : RKs c.K g kvs kvs') : (valV kvs' k).isSome = (Pc.valK kvs k).isSome := by
  have q := RKs.val k r
  cases e : Pc.valK kvs k with
  | none => rw [e] at q; rw [show valV kvs' k = none from q]; rfl
  | some w => rw [e] at q; obtain ⟨v, q, _⟩ := q; rw [q]; rfl
theorem RKs.length {κ : Type} : ∀ {kvs : List (κ × W)} {kvs' : List (κ × V)}, RKs c.K g kvs kvs' → kvs.length = kvs'.length
  | [], _, h => by rw [show _ = ([] : List (κ × V)) from h]; rfl
  | _ :: _, _, ⟨v, vs', e, _, h2⟩ => by rw [e]; simp [RKs.length h2]
theorem RKs.any {κ : Type} (f : κ → Bool) : ∀ {kvs : List (κ × W)} {kvs' : List (κ × V)}, RKs c.K g kvs kvs' → kvs.any (fun kv => f kv.1) = kvs'.any (fun kv => f kv.1)
  | [], _, h => by rw [show _ = ([] : List (κ × V)) from h]; rfl
  | _ :: _, _, ⟨v, vs', e, _, h2⟩ => by rw [e, List.any_cons, List.any_cons, RKs.any f h2]
theorem RKs.map {κ : Type} [DecidableEq κ] (k : κ) {w : W} {v : V} (hv : RW c.K g w v) : ∀ {kvs : List (κ × W)} {kvs' : List (κ × V)}, RKs c.K g kvs kvs' →
    RKs c.K g (kvs.map fun kv => if kv.1 = k then (kv.1, w) else kv) (kvs'.map fun kv => if kv.1 = k then (kv.1, v) else kv)
  | [], _, h => by rw [show _ = ([] : List (κ × V)) from h]; rfl
  | (q, w') :: r, _, ⟨v', vs', e, h1, h2⟩ => by
    rw [e, List.map_cons, List.map_cons]
    by_cases hq : q = k
    · simp only [hq, if_pos]
      exact ⟨v, _, rfl, hv, RKs.map k hv h2⟩
    · simp only [hq, if_neg, not_false_eq_true]
      exact ⟨v', _, rfl, h1, RKs.map k hv h2⟩
theorem RKs.append {κ : Type} : ∀ {kvs ls : List (κ × W)} {kvs' ls' : List (κ × V)}, RKs c.K g kvs kvs' → RKs c.K g ls ls' → RKs c.K g (kvs ++ ls) (kvs' ++ ls')
  | [], ls, _, ls', h, h' => by rw [show _ = ([] : List (κ × V)) from h]; exact h'
  | _ :: _, ls, _, ls', ⟨v, vs2, e, h1, h2⟩, h' => by rw [e]; exact ⟨v, _, rfl, h1, RKs.append h2 h'⟩
theorem RKs.put {kvs : List (Key × W)} {kvs' : List (Key × V)} (k : Key) {w : W} {v : V} (r : RKs c.K g kvs kvs') (hv : RW c.K g w v) : RKs c.K g (Pc.putK kvs k w) (L2.putK kvs' k v) := by
  unfold Pc.putK L2.putK
  rw [← r.any (fun q => decide (q = k))]
  by_cases h : (kvs.any fun kv => decide (kv.1 = k)) = true
  · rw [if_pos h, if_pos h]; exact r.map k hv
  · rw [if_neg h, if_neg h]; exact r.append ⟨v, [], rfl, hv, rfl⟩
theorem keyW_v {w : W} {v : V} {k : Key} (r : RW c.K g w v) (h : keyW w = some k) : v = kV k := by
  unfold keyW at h
  split at h
  · cases h; exact r
  · cases h; exact r
  · cases h
/-- the cell at n -/
theorem cell_of {n : Nat} {v : V} {ce : Cell} (R : Rl c g S) (r : RW c.K g (.loc n) v) (h : S[n]? = some ce) : ∃ a, v = .ref a ∧ g.r[n]? = some a ∧ CellR c g a ce := by
  obtain ⟨a, hn, rfl⟩ := r
  exact ⟨a, rfl, hn, R.cell n ce a h hn⟩
theorem seq_of {w : W} {v : V} {ws : List W} (R : Rl c g S) (r : RW c.K g w v) (h : seqOf S w = some ws) : ∃ a vs, v = .ref a ∧ RWs c.K g ws vs ∧ (SqL c.K g.H a vs ∨ SqT c.K g.H a vs) := by
  cases w with
  | d x =>
    cases x <;> simp only [seqOf] at h <;> first | (cases h; done) | cases h
    · obtain ⟨a, vs, rfl, h1, h2⟩ := r
      exact ⟨a, vs, rfl, RWs.ofD h2, .inr h1⟩
    · obtain ⟨a, vs, rfl, h1, _, h2⟩ := r
      exact ⟨a, vs, rfl, RWs.ofD h2, .inl (.inl (.inl h1))⟩
    · obtain ⟨a, rfl, h1⟩ := r
      exact ⟨a, _, rfl, RWs.ints, .inl h1.sq⟩
  | loc n =>
    simp only [seqOf] at h
    split at h
    · rename_i ws' hs
      cases h
      obtain ⟨a, rfl, _, vs, h1, h2⟩ := cell_of R r hs
      exact ⟨a, vs, rfl, h2, .inl (.inl (.inl h1))⟩
    · cases h

theorem op_inDict (hu : X.A.units + 1 < cLine) : OpR X (compareOp .In) (fun x y H Q => ∃ a o, y = .ref a ∧ DGet H a x o ∧ Q (.bl o.isSome) H) := by
  intro pins s σ H x y v u Q I rx ry ⟨a, o, e, gg, q⟩
  subst e
  obtain rfl : u = Value.ref a := ry
  exact d_in hu I gg rx fun s3 I3 => ⟨.bl o.isSome, H, I3, rfl, q⟩
theorem op_ninDict (hu : X.A.units + 1 < cLine) : OpR X (compareOp .NotIn) (fun x y H Q => ∃ a o, y = .ref a ∧ DGet H a x o ∧ Q (.bl (!o.isSome)) H) := by
  intro pins s σ H x y v u Q I rx ry ⟨a, o, e, gg, q⟩
  subst e
  obtain rfl : u = Value.ref a := ry
  exact d_notIn hu I gg rx fun s3 I3 => ⟨.bl (!o.isSome), H, I3, rfl, q⟩
theorem isN_d {x : D} {v : V} (r : RD c.K g x v) : decide (v = V.non) = isNon x := by
  cases x with
  | non => cases r; rfl
  | bl _ => cases r; rfl
  | int _ => cases r; rfl
  | str _ => cases r; rfl
  | tup _ => obtain ⟨a, vs, rfl, _⟩ := r; rfl
  | lst _ => obtain ⟨a, vs, rfl, _⟩ := r; rfl
  | scr _ => obtain ⟨a, rfl, _⟩ := r; rfl
theorem isN_d' {x : D} {v : V} (r : RD c.K g x v) : (!decide (v = V.non)) = !isNon x := by
  rw [isN_d r]

theorem cmp_ok (o : COp) {x y : W} {v u : V} (R : Rl c g S) (rx : RW c.K g x v) (ry : RW c.K g y u) (h : (PostW c Wx σ Q).p g (cmpW o x y S)) (hK : X.K = c.K) (hu : X.A.units + 64 < cLine) : rAny X (compareOp (cop o)) v u g.H Q := by
  unfold cmpW at h
  split at h
  · cases rx; cases ry; exact ⟨_, op_lt, _, _, rfl, rfl, ret_bl R h⟩
  · cases rx; cases ry; exact ⟨_, op_le, _, _, rfl, rfl, ret_bl R h⟩
  · cases rx; cases ry; exact ⟨_, op_gt, _, _, rfl, rfl, ret_bl R h⟩
  · cases rx; cases ry; exact ⟨_, op_ge, _, _, rfl, rfl, ret_bl R h⟩
  · cases ry; refine ⟨_, op_isN, rfl, ?_⟩; rw [isN_d rx]; exact ret_bl R h
  · cases ry; refine ⟨_, op_notN, rfl, ?_⟩; rw [isN_d' rx]; exact ret_bl R h
  · obtain ⟨b, hb, h⟩ := PP.ofO _ h
    have q := ret_bl R h
    rcases eqW_ok R rx ry hb with ⟨h1, h2⟩ | ⟨d, e, h1, h2, h3, h4, h5⟩
    · exact ⟨_, op_eq, h1, by rw [h2]; exact q⟩
    · exact ⟨_, op_eqD hu, d, e, hK ▸ h1, hK ▸ h2, h3, h4, by rw [h5]; exact q⟩
  · obtain ⟨b, hb, h⟩ := PP.ofO _ h
    have q := ret_bl R h
    rcases eqW_ok R rx ry hb with ⟨h1, h2⟩ | ⟨d, e, h1, h2, h3, h4, h5⟩
    · exact ⟨_, op_ne, h1, by rw [h2]; exact q⟩
    · exact ⟨_, op_neD hu, d, e, hK ▸ h1, hK ▸ h2, h3, h4, by rw [h5]; exact q⟩
  · obtain ⟨hq, h⟩ := PP.ite _ h
    obtain ⟨a, vs, rfl, h1, h2⟩ := ry
    exact ⟨_, op_in_seq, a, vs, rfl, .inr (hK ▸ h1), flat_v rx hq.1, flat_vs h2 hq.2, by rw [if_neg Bool.false_ne_true, inV_d rx hq.1 h2 hq.2]; exact ret_bl R h⟩
  · obtain ⟨hq, h⟩ := PP.ite _ h
    obtain ⟨a, vs, rfl, h1, h2⟩ := ry
    exact ⟨_, op_notIn_seq, a, vs, rfl, .inr (hK ▸ h1), flat_v rx hq.1, flat_vs h2 hq.2, by rw [if_pos rfl, inV_d rx hq.1 h2 hq.2]; exact ret_bl R h⟩
  · obtain ⟨hq, h⟩ := PP.ite _ h
    obtain ⟨a, vs, rfl, h1, _, h2⟩ := ry
    exact ⟨_, op_in_seq, a, vs, rfl, .inl (.inl (.inl h1)), flat_v rx hq.1, flat_vs h2 hq.2, by rw [if_neg Bool.false_ne_true, inV_d rx hq.1 h2 hq.2]; exact ret_bl R h⟩
  · obtain ⟨hq, h⟩ := PP.ite _ h
    obtain ⟨a, vs, rfl, h1, _, h2⟩ := ry
    exact ⟨_, op_notIn_seq, a, vs, rfl, .inl (.inl (.inl h1)), flat_v rx hq.1, flat_vs h2 hq.2, by rw [if_pos rfl, inV_d rx hq.1 h2 hq.2]; exact ret_bl R h⟩
  · split at h
    · rename_i k kvs hk hs
      obtain ⟨a, rfl, _, kvs', h1, h2⟩ := cell_of R ry hs
      have e := keyW_v (w := .d _) rx hk
      subst e
      exact ⟨_, op_inDict (by omega), a, _, rfl, DGet.k h1, by rw [h2.isSome k]; exact ret_bl R h⟩
    · exact h.elim
  · split at h
    · rename_i k kvs hk hs
      obtain ⟨a, rfl, _, kvs', h1, h2⟩ := cell_of R ry hs
      have e := keyW_v (w := .d _) rx hk
      subst e
      exact ⟨_, op_ninDict (by omega), a, _, rfl, DGet.k h1, by rw [h2.isSome k]; exact ret_bl R h⟩
    · exact h.elim
  · exact h.elim

/-! ### subscripts -/
theorem ix_dict (hu : X.A.units + 1 < cLine) : IxR X (fun x y H Q => ∃ a v, x = .ref a ∧ DGet H a y (some v) ∧ Q v H) := by
  intro value slice pins s σ H x y v u Q I rx ry ⟨a, v', e, gg, q⟩ hs
  subst e
  obtain rfl : v = Value.ref a := rx
  exact tail_any (dict_typeIs I gg) PySem.F.slot_dict_getitem.lookup (d_getItem hu I gg ry fun w' s3 I3 rw' => ⟨v', H, I3, rw', q⟩) hs
def rAnyIx (X : Cx) : R2 := fun x y H Q => ∃ r, IxR X r ∧ r x y H Q
theorem ix_any (X : Cx) : IxR X (rAnyIx X) := fun value slice pins s σ H x y v u Q I rx ry ⟨r, h, q⟩ hs => h value slice pins s σ H x y v u Q I rx ry q hs
theorem atW_atI {α : Type} {xs : List α} {i : Int} {x : α} (h : atW xs i = some x) : atI xs i = some x := by
  unfold atW at h
  unfold atI ixN
  by_cases h0 : 0 ≤ i
  · rw [if_pos h0] at h ⊢
    have hl := (List.getElem?_eq_some_iff.mp h).1
    rw [if_pos (by omega)]
    exact h
  · rw [if_neg h0] at h ⊢
    by_cases h1 : -(xs.length : Int) ≤ i
    · rw [if_pos h1] at h ⊢
      exact h
    · rw [if_neg h1] at h; cases h
theorem RWs.at {ws : List W} {vs : List V} {i : Int} {w : W} (r : RWs c.K g ws vs) (h : atW ws i = some w) : ∃ v, atI vs i = some v ∧ RW c.K g w v := by
  have hl := r.length
  unfold atW at h
  by_cases h0 : 0 ≤ i
  · rw [if_pos h0] at h
    obtain ⟨v, h1, h2⟩ := r.get h
    refine ⟨v, atW_atI ?_, h2⟩
    unfold atW; rw [if_pos h0]; exact h1
  · rw [if_neg h0] at h
    by_cases h1 : -(ws.length : Int) ≤ i
    · rw [if_pos h1] at h
      obtain ⟨v, h3, h2⟩ := r.get h
      refine ⟨v, atW_atI ?_, h2⟩
      unfold atW; rw [if_neg h0, if_pos (by omega), ← hl]; exact h3
    · rw [if_neg h1] at h; cases h
theorem ixR_ok {a : Addr} {vs : List V} {i : Int} {w : V} (h : SqL X.K g.H a vs ∨ SqT X.K g.H a vs) (hw : atI vs i = some w) (q : Q w g.H) : rAnyIx X (.ref a) (.int i) g.H Q := by
  rcases h with h | h
  · exact ⟨_, ix_list, a, vs, i, w, rfl, rfl, h, hw, q⟩
  · exact ⟨_, ix_tup, a, vs, i, w, rfl, rfl, h, hw, q⟩
theorem ix_ok {x y : W} {v u : V} (R : Rl c g S) (rx : RW c.K g x v) (ry : RW c.K g y u) (h : (PostW c Wx σ Q).p g (ixW x y S)) (hK : X.K = c.K) (hu : X.A.units + 64 < cLine) : rAnyIx X v u g.H Q := by
  unfold ixW at h
  split at h
  · cases ry
    split at h
    · cases rx
      obtain ⟨hq, h⟩ := PP.ite _ h
      obtain ⟨ch, hc, h⟩ := PP.ofO _ h
      exact ⟨_, ix_str, _, _, ch, rfl, rfl, by rw [← maxLen_eq]; exact hq, atW_atI hc, ret_str R h⟩
    · split at h
      · rename_i kvs hs
        obtain ⟨w, hw, h⟩ := PP.ofO1 _ h
        obtain ⟨a, rfl, _, kvs', h1, h2⟩ := cell_of R rx hs
        obtain ⟨v2, h3, h4⟩ := h2.val_some hw
        exact ⟨_, ix_dict (by omega), a, v2, rfl, by rw [← h3]; exact DGet.k (k := .inl _) h1, ret_d R h4 h⟩
      · rename_i ws hs
        obtain ⟨w, hw, h⟩ := PP.ofO1 _ h
        obtain ⟨a, rfl, _, vs, h1, h2⟩ := cell_of R rx hs
        obtain ⟨v2, h3, h4⟩ := h2.at hw
        exact ixR_ok (.inl (.inl (.inl h1))) h3 (ret_d R h4 h)
      · exact h.elim
    · obtain ⟨ws, hw, h⟩ := PP.ofO _ h
      obtain ⟨w, hw2, h⟩ := PP.ofO1 _ h
      obtain ⟨a, vs, rfl, h2, h1⟩ := seq_of R rx hw
      obtain ⟨v2, h3, h4⟩ := h2.at hw2
      exact ixR_ok (hK ▸ h1) h3 (ret_d R h4 h)
  · cases ry
    split at h
    · split at h
      · rename_i kvs hs
        obtain ⟨w, hw, h⟩ := PP.ofO1 _ h
        obtain ⟨a, rfl, _, kvs', h1, h2⟩ := cell_of R rx hs
        obtain ⟨v2, h3, h4⟩ := h2.val_some hw
        exact ⟨_, ix_dict (by omega), a, v2, rfl, by rw [← h3]; exact DGet.k (k := .inr _) h1, ret_d R h4 h⟩
      · exact h.elim
    · exact h.elim
  · exact h.elim

/-! ### slices -/
def rAnySl (X : Cx) : V → Option Int → Option Int → Hp → VK → Prop := fun x lo hi H Q => ∃ r, SlR X r ∧ r x lo hi H Q
theorem sl_any (X : Cx) : SlR X (rAnySl X) := fun pins s σ H x v vl vu lo hi sl Q I rx hs pl pu ⟨r, h, q⟩ => h pins s σ H x v vl vu lo hi sl Q I rx hs pl pu q
theorem sIx_eq (n d : Nat) (o : Option Int) : HT.sIx n d o = sIx n d o := by
  cases o with
  | none => rfl
  | some i =>
    show (if i < 0 then (i + (n : Int)).toNat else min i.toNat n) = if 0 ≤ i then min i.toNat n else (i + n).toNat
    by_cases h0 : 0 ≤ i
    · rw [if_pos h0, if_neg (by omega)]
    · rw [if_neg h0, if_pos (by omega)]
theorem sl_ok {x : W} {v : V} {lo hi : Option Int} (R : Rl c g S) (rx : RW c.K g x v) (h : (PostW c Wx σ Q).p g (slW x lo hi S)) (hK : X.K = c.K) : rAnySl X v lo hi g.H Q := by
  unfold slW at h
  split at h
  · rename_i xs
    obtain ⟨p, vs, rfl, h1, h2⟩ := rx
    have hl := h2.length
    refine ⟨_, sl_tupA, p, vs, rfl, hK ▸ h1, fun e => ?_, fun _ q hq => ?_⟩
    · rw [← hl, sIx_eq, sIx_eq] at e
      refine ret_d R (w := .d (.tup (cutL xs _ _))) ⟨p, vs, rfl, h1, ?_⟩ h
      have ec : cutL xs (sIx xs.length 0 lo) (sIx xs.length xs.length hi) = xs := by unfold cutL; rw [e.1, e.2]; simp
      rw [ec]; exact h2
    · refine ret_tup R (vs := cutV vs lo hi) ?_ h q hq
      unfold cutV
      rw [← hl, sIx_eq, sIx_eq]
      exact (h2.drop _).take _
  · rename_i xs
    obtain ⟨p, vs, rfl, h1, _, h2⟩ := rx
    have hl := h2.length
    refine ⟨_, sl_list, p, vs, rfl, .inl (.inl h1), fun q hq => ?_⟩
    refine ret_lst R (vs := cutV vs lo hi) ?_ h q hq
    unfold cutV
    rw [← hl, sIx_eq, sIx_eq]
    exact (h2.drop _).take _
  · exact h.elim
end
end Pc
set_option Elab.async false
set_option linter.all false
set_option maxRecDepth 100000
set_option autoImplicit false
set_option maxHeartbeats 1000000
/-! PcS4: truth, built-in functions, methods of built-in types by values -/
namespace Pc
open PySem PySem.Spec PyProof.Rows L2

theorem sortI_perm : ∀ xs : List Int, (sortI xs).Perm xs
  | [] => .nil
  | x :: xs => by
    have h : ∀ ys : List Int, (insI x ys).Perm (x :: ys) := by
      intro ys
      induction ys with
      | nil => exact .refl _
      | cons y ys ih =>
        unfold insI
        by_cases q : x ≤ y
        · rw [if_pos q]
        · rw [if_neg q]; exact (ih.cons y).trans (.swap x y ys)
    exact (h _).trans ((sortI_perm xs).cons x)
theorem sortI_sorted : ∀ xs : List Int, (sortI xs).Pairwise (· ≤ ·)
  | [] => .nil
  | x :: xs => by
    have mem : ∀ ys : List Int, ∀ z ∈ insI x ys, z = x ∨ z ∈ ys := by
      intro ys
      induction ys with
      | nil => intro z hz; exact .inl (List.mem_singleton.mp hz)
      | cons y ys ih =>
        intro z hz
        unfold insI at hz
        by_cases q : x ≤ y
        · rw [if_pos q] at hz; exact List.mem_cons.mp hz
        · rw [if_neg q] at hz
          rcases List.mem_cons.mp hz with h | h
          · exact .inr (by rw [h]; exact List.mem_cons_self)
          · exact (ih z h).imp_right (List.mem_cons_of_mem _)
    have h : ∀ ys : List Int, ys.Pairwise (· ≤ ·) → (insI x ys).Pairwise (· ≤ ·) := by
      intro ys
      induction ys with
      | nil => intro _; exact List.pairwise_singleton _ _
      | cons y ys ih =>
        intro hp
        unfold insI
        rw [List.pairwise_cons] at hp
        by_cases q : x ≤ y
        · rw [if_pos q, List.pairwise_cons]
          refine ⟨fun z hz => ?_, List.pairwise_cons.mpr hp⟩
          rcases List.mem_cons.mp hz with e | e
          · rw [e]; exact q
          · have := hp.1 z e; omega
        · rw [if_neg q, List.pairwise_cons]
          refine ⟨fun z hz => ?_, ih hp.2⟩
          rcases mem ys z hz with e | e
          · rw [e]; omega
          · exact hp.1 z e
    exact h _ (sortI_sorted xs)
theorem sortI_eq {ns ns' : List Int} (h : ns'.Perm ns) (hs : ns'.Pairwise (· ≤ ·)) : ns' = sortI ns := PySem.W.ksm_same (h.trans (sortI_perm ns).symm) hs (sortI_sorted ns)
theorem minL_spec : ∀ (xs : List Int) (m : Int), (minL xs m = m ∨ minL xs m ∈ xs) ∧ minL xs m ≤ m ∧ ∀ y ∈ xs, minL xs m ≤ y
  | [], m => ⟨.inl rfl, Int.le_refl _, fun _ h => nomatch h⟩
  | x :: xs, m => by
    unfold minL
    obtain ⟨h1, h2, h3⟩ := minL_spec xs (if x < m then x else m)
    by_cases q : x < m
    · rw [if_pos q] at h1 h2 h3 ⊢
      refine ⟨.inr ?_, by omega, fun y hy => ?_⟩
      · rcases h1 with h1 | h1
        · rw [h1]; exact List.mem_cons_self
        · exact List.mem_cons_of_mem _ h1
      · rcases List.mem_cons.mp hy with e | e
        · rw [e]; exact h2
        · exact h3 y e
    · rw [if_neg q] at h1 h2 h3 ⊢
      refine ⟨h1.imp_right (List.mem_cons_of_mem _), h2, fun y hy => ?_⟩
      rcases List.mem_cons.mp hy with e | e
      · rw [e]; omega
      · exact h3 y e
theorem maxL_spec : ∀ (xs : List Int) (m : Int), (maxL xs m = m ∨ maxL xs m ∈ xs) ∧ m ≤ maxL xs m ∧ ∀ y ∈ xs, y ≤ maxL xs m
  | [], m => ⟨.inl rfl, Int.le_refl _, fun _ h => nomatch h⟩
  | x :: xs, m => by
    unfold maxL
    obtain ⟨h1, h2, h3⟩ := maxL_spec xs (if m < x then x else m)
    by_cases q : m < x
    · rw [if_pos q] at h1 h2 h3 ⊢
      refine ⟨.inr ?_, by omega, fun y hy => ?_⟩
      · rcases h1 with h1 | h1
        · rw [h1]; exact List.mem_cons_self
        · exact List.mem_cons_of_mem _ h1
      · rcases List.mem_cons.mp hy with e | e
        · rw [e]; exact h2
        · exact h3 y e
    · rw [if_neg q] at h1 h2 h3 ⊢
      refine ⟨h1.imp_right (List.mem_cons_of_mem _), h2, fun y hy => ?_⟩
      rcases List.mem_cons.mp hy with e | e
      · rw [e]; omega
      · exact h3 y e
theorem minL_eq {x : Int} {xs : List Int} {m : Int} (h : m ∈ x :: xs) (hm : ∀ y ∈ x :: xs, m ≤ y) : m = minL xs x := by
  obtain ⟨h1, h2, h3⟩ := minL_spec xs x
  have a : minL xs x ≤ m := by
    rcases List.mem_cons.mp h with e | e
    · rw [e]; exact h2
    · exact h3 m e
  have b : m ≤ minL xs x := hm _ (h1.elim (fun e => by rw [e]; exact List.mem_cons_self) (List.mem_cons_of_mem _))
  omega
theorem maxL_eq {x : Int} {xs : List Int} {m : Int} (h : m ∈ x :: xs) (hm : ∀ y ∈ x :: xs, y ≤ m) : m = maxL xs x := by
  obtain ⟨h1, h2, h3⟩ := maxL_spec xs x
  have a : m ≤ maxL xs x := by
    rcases List.mem_cons.mp h with e | e
    · rw [e]; exact h2
    · exact h3 m e
  have b : maxL xs x ≤ m := hm _ (h1.elim (fun e => by rw [e]; exact List.mem_cons_self) (List.mem_cons_of_mem _))
  omega

section
variable {X : Cx} {c : Cfg} {Wx : WX} {σ : L2.St} {g : Gh} {S : Sto} {Q : VK}
theorem isEmpty_len {α β : Type} {xs : List α} {ys : List β} (h : xs.length = ys.length) : (!ys.isEmpty) = !xs.isEmpty := by
  cases xs <;> cases ys <;> first | rfl | simp at h
theorem truth_ok {w : W} {v : V} {b : Bool} (R : Rl c g S) (r : RW c.K g w v) (h : truthW S w = some b) : TruV c.K v g.H b := by
  cases w with
  | d x =>
    cases x with
    | non => cases r; cases h; rfl
    | bl b => cases r; cases h; rfl
    | int i =>
      cases r; cases h
      show (!decide (i = 0)) = (i != 0)
      rw [Bool.eq_iff_iff]; simp
    | str s =>
      cases r
      simp only [truthW] at h
      by_cases hq : s.length ≤ maxLen
      · rw [if_pos hq] at h
        cases h
        refine ⟨by rw [← maxLen_eq]; exact hq, ?_⟩
        show (!decide (s.length = 0)) = ((s.length : Int) != 0)
        rw [show ((s.length : Int) != 0) = !((s.length : Int) == 0) from rfl]
        congr 1
        rw [Bool.eq_iff_iff]; simp
      · rw [if_neg hq] at h; cases h
    | tup xs =>
      obtain ⟨a, vs, rfl, h1, h2⟩ := r; cases h
      exact .inr (.inl ⟨vs, h1, (isEmpty_len h2.length).symm⟩)
    | lst xs =>
      obtain ⟨a, vs, rfl, h1, _, h2⟩ := r; cases h
      exact .inl ⟨vs, .inl (.inl h1), (isEmpty_len h2.length).symm⟩
    | scr ns =>
      obtain ⟨a, rfl, h1⟩ := r; cases h
      exact .inl ⟨_, h1.sq, (isEmpty_len (by simp)).symm⟩
  | loc n =>
    simp only [truthW] at h
    split at h
    · rename_i ws hs
      obtain ⟨a, rfl, _, vs, h1, h2⟩ := cell_of R r hs
      cases h
      exact .inl ⟨vs, .inl (.inl h1), (isEmpty_len h2.length).symm⟩
    · rename_i ws hs
      obtain ⟨a, rfl, _, vs, h1, h2⟩ := cell_of R r hs
      cases h
      exact .inr (.inr ⟨vs, h1, (isEmpty_len h2.length).symm⟩)
    · cases h

/-! ### built-in functions -/
theorem cr_sumT (hc : X.calm = true) : CallR X (.builtin "sum") (fun vs H Q => ∃ (a : Addr) (ns : List Int), vs = [V.ref a] ∧ SqT X.K H a (ns.map V.int) ∧ Q (.int ns.sum) H) := by
  intro pins s σ H vs us Q I r h
  obtain ⟨a, ns, rfl, hs, q⟩ := h
  obtain ⟨its, rv, hl, _⟩ := I.tuple hs
  rw [Vals.ref1 r]
  obtain ⟨o, h1, h2, n, h3⟩ := hl
  have hi := rv.ints
  have ht : s.heap.IsTuple a its.toArray := ⟨o, h1, h2, n, h3⟩
  obtain ⟨xs, hx⟩ := hi.allInts.items
  have hn : numsOf its.toArray.toList = ns := by rw [show its.toArray.toList = its from rfl, hi.numsOf]
  rw [hx] at ht hn
  rw [nums_intItems] at hn
  refine PySem.W.ktm_sumG (I.ok.hd hc) ht fun h' tk t' hk => ⟨.int _, H, I.kept hk, ⟨t', ?_⟩, q⟩
  rw [preSum_eq, List.take_of_length_le (by simp), hn]
def rAnyC (X : Cx) (f : Value) : List V → Hp → VK → Prop := fun xs H Q => ∃ r, CallR X f r ∧ r xs H Q
theorem cr_any (X : Cx) (f : Value) : CallR X f (rAnyC X f) := fun pins s σ H xs us Q I rv ⟨r, h, q⟩ => h pins s σ H xs us Q I rv q
/-- the built-in's name, its value -/
def biV : Bi → Str × Value
  | .len => ("len", .builtin "len")
  | .abs => ("abs", .builtin "abs")
  | .min => ("min", .builtin "min")
  | .max => ("max", .builtin "max")
  | .sum => ("sum", .builtin "sum")
  | .int => ("int", .type "int")
  | .tuple => ("tuple", .type "tuple")
  | .list => ("list", .type "list")
  | .sorted => ("sorted", .builtin "sorted")
  | .gcd => ("gcd", .builtin "math.gcd")
  | .isinst _ => ("isinstance", .builtin "isinstance")
def tyV' : Ty → String
  | .int => "int" | .bool => "bool" | .str => "str" | .tuple => "tuple" | .list => "list"
/-- what stands behind the arguments -/
def biX : Bi → List V
  | .isinst t => [.ty (tyV' t)]
  | _ => []
theorem rws1 {w : W} {vs : List V} (r : RWs c.K g [w] vs) : ∃ v, vs = [v] ∧ RW c.K g w v := by
  obtain ⟨v, vs', rfl, h1, h2⟩ := r
  exact ⟨v, by rw [show vs' = [] from h2], h1⟩
theorem rws2 {w w' : W} {vs : List V} (r : RWs c.K g [w, w'] vs) : ∃ v v', vs = [v, v'] ∧ RW c.K g w v ∧ RW c.K g w' v' := by
  obtain ⟨v, vs', rfl, h1, h2⟩ := r
  obtain ⟨v', e, q⟩ := rws1 h2
  subst e
  exact ⟨v, v', rfl, h1, q⟩
theorem lst_of {w : W} {v : V} {ws : List W} (R : Rl c g S) (r : RW c.K g w v) (h : lstOf S w = some ws) : ∃ a vs, v = .ref a ∧ RWs c.K g ws vs ∧ SqL c.K g.H a vs := by
  cases w with
  | d x =>
    cases x <;> simp only [lstOf, seqOf] at h <;> first | (cases h; done) | cases h
    · obtain ⟨a, vs, rfl, h1, _, h2⟩ := r
      exact ⟨a, vs, rfl, RWs.ofD h2, .inl (.inl h1)⟩
    · obtain ⟨a, rfl, h1⟩ := r
      exact ⟨a, _, rfl, RWs.ints, h1.sq⟩
  | loc n =>
    simp only [lstOf, seqOf] at h
    split at h
    · rename_i ws' hs
      cases h
      obtain ⟨a, rfl, _, vs, h1, h2⟩ := cell_of R r hs
      exact ⟨a, vs, rfl, h2, .inl (.inl h1)⟩
    · cases h
theorem ty_of {x : D} {v : V} (r : RD c.K g x v) (hs : isScr x = false) : ∃ T, TyX c.K g.H v (.type T) ∧ ∀ t, ∃ b, kitB T (tyV' t) = some b ∧ b = tyD t x := by
  cases x with
  | non => cases r; exact ⟨_, .base .non, fun t => by cases t <;> exact ⟨false, by decide +kernel, rfl⟩⟩
  | bl b => cases r; exact ⟨_, .base (.bl b), fun t => by cases t <;> first | exact ⟨true, by decide +kernel, rfl⟩ | exact ⟨false, by decide +kernel, rfl⟩⟩
  | int b => cases r; exact ⟨_, .base (.int b), fun t => by cases t <;> first | exact ⟨true, by decide +kernel, rfl⟩ | exact ⟨false, by decide +kernel, rfl⟩⟩
  | str b => cases r; exact ⟨_, .base (.str b), fun t => by cases t <;> first | exact ⟨true, by decide +kernel, rfl⟩ | exact ⟨false, by decide +kernel, rfl⟩⟩
  | tup xs =>
    obtain ⟨a, vs, rfl, h1, h2⟩ := r
    refine ⟨"tuple", ?_, fun t => by cases t <;> first | exact ⟨true, by decide +kernel, rfl⟩ | exact ⟨false, by decide +kernel, rfl⟩⟩
    rcases h1 with (h1 | ⟨o, h1⟩) | ⟨o, its, n, h1, h3, _⟩
    · exact .base (.tup h1)
    · exact .fTuple h1
    · exact .kTuple h1 h3
  | lst xs =>
    obtain ⟨a, vs, rfl, h1, _, h2⟩ := r
    exact ⟨"list", .base (.lst h1), fun t => by cases t <;> first | exact ⟨true, by decide +kernel, rfl⟩ | exact ⟨false, by decide +kernel, rfl⟩⟩
  | scr ns => cases hs
theorem bi_ok (f : Bi) {ws : List W} {vs : List V} (R : Rl c g S) (r : RWs c.K g ws vs) (h : (PostW c Wx σ Q).p g (biW f ws S)) (hK : X.K = c.K) (hc : X.calm = true) : rAnyC X (biV f).2 (vs ++ biX f) g.H Q := by
  unfold biW at h
  split at h
  · obtain ⟨v, ev, q⟩ := rws1 r; subst ev
    split at h
    · cases q
      obtain ⟨hq, h⟩ := PP.ite _ h
      exact ⟨_, call_len_str, _, rfl, by rw [← maxLen_eq]; exact hq, ret_int R h⟩
    · split at h
      · rename_i kvs hs
        obtain ⟨a, rfl, _, kvs', h1, h2⟩ := cell_of R q hs
        exact ⟨_, call_lenD, a, kvs', rfl, h1, by rw [← h2.length]; exact ret_int R h⟩
      · rename_i ws hs
        obtain ⟨a, rfl, _, vs, h1, h2⟩ := cell_of R q hs
        exact ⟨_, call_len_seq, a, vs, rfl, .inl (.inl (.inl h1)), by rw [← h2.length]; exact ret_int R h⟩
      · exact h.elim
    · obtain ⟨ws, hw, h⟩ := PP.ofO _ h
      obtain ⟨a, vs, rfl, h2, h1⟩ := seq_of R q hw
      exact ⟨_, call_len_seq, a, vs, rfl, hK ▸ h1, by rw [← h2.length]; exact ret_int R h⟩
  · obtain ⟨v, ev, q⟩ := rws1 r; subst ev
    cases q
    exact ⟨_, call_abs, _, rfl, ret_int R h⟩
  · obtain ⟨v, v', ev, q, q'⟩ := rws2 r; subst ev
    cases q; cases q'
    exact ⟨_, call_min2 hc, _, _, rfl, ret_int R h⟩
  · obtain ⟨v, v', ev, q, q'⟩ := rws2 r; subst ev
    cases q; cases q'
    exact ⟨_, call_max2 hc, _, _, rfl, ret_int R h⟩
  · obtain ⟨v, ev, q⟩ := rws1 r; subst ev
    split at h
    · rename_i x xs hx
      obtain ⟨ws, hw, hi⟩ := Option.bind_eq_some_iff.mp hx
      obtain ⟨a, vs, rfl, h2, h1⟩ := lst_of R q hw
      have e := RWs.int hi h2
      subst e
      refine ⟨_, cr_min hc, a, _, rfl, hK ▸ h1, by simp, fun m hm hl => ?_⟩
      rw [minL_eq hm hl]; exact ret_int R h
    · exact h.elim
  · obtain ⟨v, ev, q⟩ := rws1 r; subst ev
    split at h
    · rename_i x xs hx
      obtain ⟨ws, hw, hi⟩ := Option.bind_eq_some_iff.mp hx
      obtain ⟨a, vs, rfl, h2, h1⟩ := lst_of R q hw
      have e := RWs.int hi h2
      subst e
      refine ⟨_, cr_max hc, a, _, rfl, hK ▸ h1, by simp, fun m hm hl => ?_⟩
      rw [maxL_eq hm hl]; exact ret_int R h
    · exact h.elim
  · obtain ⟨v, ev, q⟩ := rws1 r; subst ev
    obtain ⟨ns, hx, h⟩ := PP.ofO _ h
    obtain ⟨ws, hw, hi⟩ := Option.bind_eq_some_iff.mp hx
    obtain ⟨a, vs, rfl, h2, h1⟩ := seq_of R q hw
    have e := RWs.int hi h2
    subst e
    rcases h1 with h1 | h1
    · exact ⟨_, cr_sum hc, a, ns, rfl, hK ▸ h1, ret_int R h⟩
    · exact ⟨_, cr_sumT hc, a, ns, rfl, hK ▸ h1, ret_int R h⟩
  · obtain ⟨v, ev, q⟩ := rws1 r; subst ev
    cases q
    exact ⟨_, call_int1, .inl ⟨_, rfl, ret_int R h⟩⟩
  · obtain ⟨v, ev, q⟩ := rws1 r; subst ev
    cases q
    exact ⟨_, call_int1, .inr ⟨_, rfl, ret_int R h⟩⟩
  · obtain ⟨v, ev, q⟩ := rws1 r; subst ev
    obtain ⟨ds, hx, h⟩ := PP.ofO _ h
    obtain ⟨ws, hw, hi⟩ := Option.bind_eq_some_iff.mp hx
    obtain ⟨a, vs, rfl, h2, h1⟩ := seq_of R q hw
    have qq := RDs.ofW hi h2
    refine ⟨_, call_tuple_of, a, vs, rfl, ?_⟩
    rcases h1 with h1 | h1
    · exact .inl ⟨hK ▸ h1, fun l hl => ret_tup R qq h l hl⟩
    · exact .inr ⟨hK ▸ h1, ret_d R (w := .d (.tup ds)) ⟨a, vs, rfl, h1, qq⟩ h⟩
  · obtain ⟨v, ev, q⟩ := rws1 r; subst ev
    obtain ⟨ds, hx, h⟩ := PP.ofO _ h
    obtain ⟨ws, hw, hi⟩ := Option.bind_eq_some_iff.mp hx
    obtain ⟨a, vs, rfl, h2, h1⟩ := seq_of R q hw
    exact ⟨_, call_list_of, a, vs, rfl, hK ▸ h1, fun l hl => ret_lst R (RDs.ofW hi h2) h l hl⟩
  · obtain ⟨v, ev, q⟩ := rws1 r; subst ev
    obtain ⟨ns, hx, h⟩ := PP.ofO _ h
    obtain ⟨ws, hw, hi⟩ := Option.bind_eq_some_iff.mp hx
    obtain ⟨a, vs, rfl, h2, h1⟩ := lst_of R q hw
    have e := RWs.int hi h2
    subst e
    refine ⟨_, cr_sortedI, a, ns, rfl, hK ▸ h1, fun ns' p hp hs hl => ?_⟩
    rw [sortI_eq hp hs]
    exact ret_lst R RDs.ints h p hl
  · obtain ⟨v, v', ev, q, q'⟩ := rws2 r; subst ev
    cases q; cases q'
    exact ⟨_, cr_gcd, _, _, rfl, ret_int R h⟩
  · rename_i t x
    obtain ⟨v, ev, q⟩ := rws1 r; subst ev
    obtain ⟨hq, h⟩ := PP.ite _ h
    obtain ⟨T, h1, h2⟩ := ty_of q hq
    obtain ⟨b, h3, h4⟩ := h2 t
    subst h4
    exact ⟨_, call_isi, _, _, _, _, _, rfl, .ty _, hK ▸ h1, kit_ty h3, ret_bl R h⟩
  · exact h.elim

/-! ### methods of built-in types -/
theorem set_cell {n : Nat} {a : Addr} {ce ce' : Cell} {o : HO} {w : D} {v : V} (R : Rl c g S) (hn : g.r[n]? = some a) (hs : S[n]? = some ce) (ho : ∀ ps, o ≠ .tbl ps) (hx : ∀ x, o ≠ .own x)
    (hc : ∀ g', Ext g g' → g'.H = upd g.H a o → CellR c g' a ce') (hv : ∀ g', RD c.K g' w v) (h : (PostW c Wx σ Q).p g (.ok (.d w) (S.set n ce'))) : Q v (upd g.H a o) := by
  have e : Ext g (g.put a o) := by
    have ha : a ∈ g.r := List.mem_of_getElem? hn
    exact {
      pre := fun _ _ h => h
      keep := fun b u h hr _ => by
        show upd g.H a o b = some u
        rw [upd_ne (fun z => hr (by rw [z]; exact ha))]; exact h
      grow := fun _ h => .inl h
      old := fun _ h => h
      fresh := fun n a' h hn => by rw [show (g.put a o).r = g.r from rfl, List.getElem?_eq_none hn] at h; cases h
      st := fun b h => by
        show upd g.H a o b ≠ none
        by_cases hb : b = a
        · rw [hb, upd_same]; exact fun z => nomatch z
        · rw [upd_ne hb]; exact h }
  obtain ⟨e, R'⟩ := cell_set (o := o) R hn hs ho hx (hc _ e rfl)
  exact h v (g.put a o) e R' (hv _)
theorem recv_ty {f : Bm} {x : W} {v : V} (R : Rl c g S) (rx : RW c.K g x v) (h : recvOk f x S = true) : (f = .get ∧ ∃ a kvs, v = .ref a ∧ g.H a = some (.dK kvs)) ∨ (f ≠ .get ∧ tyV c.K "list" v g.H) := by
  unfold recvOk at h
  split at h
  · split at h
    · rename_i hs
      obtain ⟨a, rfl, hn, us, h1, h2⟩ := cell_of R rx hs
      exact .inr ⟨(fun z => nomatch z), .inl ⟨rfl, us, .inl (.inl h1)⟩⟩
    · rename_i hs
      obtain ⟨a, rfl, hn, us, h1, h2⟩ := cell_of R rx hs
      exact .inr ⟨(fun z => nomatch z), .inl ⟨rfl, us, .inl (.inl h1)⟩⟩
    · rename_i hs
      obtain ⟨a, rfl, hn, us, h1, h2⟩ := cell_of R rx hs
      exact .inl ⟨rfl, a, us, rfl, h1⟩
    · cases h
  · cases h
theorem bm_append {x : W} {ws : List W} {v : V} {vs : List V} (R : Rl c g S) (rx : RW c.K g x v) (rs : RWs c.K g ws vs) (h : (PostW c Wx σ Q).p g (bmW .append x ws S)) : rAppend v vs g.H Q := by
  unfold bmW at h
  split at h
  · split at h
    · rename_i xs hs
      obtain ⟨hq, h⟩ := PP.ite _ h
      obtain ⟨a, rfl, hn, us, h1, h2⟩ := cell_of R rx hs
      obtain ⟨u, eu, ru⟩ := rws1 rs
      subst eu
      refine ⟨a, us, u, rfl, rfl, h1, by rw [← h2.length, ← maxLen_eq]; exact hq, ?_⟩
      exact set_cell (ce' := .lst (xs ++ [_])) (w := .non) R hn hs (fun _ z => nomatch z) (fun _ z => nomatch z) (fun g' e eh => ⟨_, by rw [eh]; exact upd_same, (h2.append (show RWs c.K g [_] [u] from ⟨u, [], rfl, ru, rfl⟩)).mono R e⟩) (fun _ => rfl) h
    · exact h.elim
  all_goals first | contradiction | exact h.elim
theorem bm_sort {x : W} {ws : List W} {v : V} {vs : List V} (R : Rl c g S) (rx : RW c.K g x v) (rs : RWs c.K g ws vs) (h : (PostW c Wx σ Q).p g (bmW .sort x ws S)) : vs = [] ∧ rSortI v [] g.H Q := by
  unfold bmW at h
  split at h
  case h_4 n _ =>
    split at h
    · rename_i xs hs
      split at h
      · rename_i ns hns
        obtain ⟨a, rfl, hn, us, h1, h2⟩ := cell_of R rx hs
        have e := RWs.int hns h2
        subst e
        refine ⟨rs, a, ns, rfl, rfl, h1, fun ns' hp hs' => ?_⟩
        rw [sortI_eq hp hs']
        exact set_cell (ce' := .lst ((sortI ns).map fun i => .d (.int i))) (w := .non) R hn hs (fun _ z => nomatch z) (fun _ z => nomatch z) (fun g' e eh => ⟨_, by rw [eh]; exact upd_same, RWs.ints⟩) (fun _ => rfl) h
      · exact h.elim
    · exact h.elim
  all_goals first | contradiction | exact h.elim
theorem bm_get {x : W} {ws : List W} {v : V} {vs : List V} (R : Rl c g S) (rx : RW c.K g x v) (rs : RWs c.K g ws vs) (h : (PostW c Wx σ Q).p g (bmW .get x ws S)) :
    ∃ a kvs k o, v = .ref a ∧ g.H a = some (.dK kvs) ∧ o = valV kvs k ∧ ((vs = [kV k] ∧ Q (o.getD .non) g.H) ∨ ∃ d, vs = [kV k, d] ∧ Q (o.getD d) g.H) := by
  unfold bmW at h
  split at h
  case h_2 n k _ =>
    split at h
    · rename_i k' kvs hk hs
      obtain ⟨a, rfl, hn, kvs', h1, h2⟩ := cell_of R rx hs
      obtain ⟨u, eu, ru⟩ := rws1 rs
      subst eu
      have e := keyW_v (w := .d k) ru hk
      subst e
      refine ⟨a, kvs', k', _, rfl, h1, rfl, .inl ⟨rfl, ?_⟩⟩
      have q := h2.val k'
      cases hv : Pc.valK kvs k' with
      | none => rw [hv] at q h; rw [show valV kvs' k' = none from q]; exact ret_d R (w := .d .non) rfl h
      | some w => rw [hv] at q h; obtain ⟨v2, q1, q2⟩ := q; rw [q1]; exact ret_d R q2 h
    · exact h.elim
  case h_3 n k w _ =>
    split at h
    · rename_i k' kvs hk hs
      obtain ⟨a, rfl, hn, kvs', h1, h2⟩ := cell_of R rx hs
      obtain ⟨u, u', eu, ru, ru'⟩ := rws2 rs
      subst eu
      have e := keyW_v (w := .d k) ru hk
      subst e
      refine ⟨a, kvs', k', _, rfl, h1, rfl, .inr ⟨u', rfl, ?_⟩⟩
      have q := h2.val k'
      cases hv : Pc.valK kvs k' with
      | none => rw [hv] at q h; rw [show valV kvs' k' = none from q]; exact ret_d R ru' h
      | some w => rw [hv] at q h; obtain ⟨v2, q1, q2⟩ := q; rw [q1]; exact ret_d R q2 h
    · exact h.elim
  all_goals first | contradiction | exact h.elim
end
end Pc
set_option Elab.async false
set_option linter.all false
set_option maxRecDepth 100000
set_option autoImplicit false
set_option maxHeartbeats 1000000
/-! PcS5: what stands behind a call -/
namespace Pc
open PySem PySem.Spec PyProof.Rows L2

section
variable {K : PySem.W.Frag} {g g2 : Gh}
mutual
theorem RD.weak (hm : ∀ b, g2.M b → g.M b) (hh : g2.H = g.H) : ∀ (d : D) (v : V), RD K g d v → RD K g2 d v
  | .non, v, h => h
  | .bl b, v, h => h
  | .int i, v, h => h
  | .str s, v, h => h
  | .tup ds, v, h => by
    obtain ⟨a, vs, rfl, h1, h2⟩ := h
    exact ⟨a, vs, rfl, hh ▸ h1, RDs.weak hm hh ds vs h2⟩
  | .lst ds, v, h => by
    obtain ⟨a, vs, rfl, h1, hM, h2⟩ := h
    exact ⟨a, vs, rfl, hh ▸ h1, fun z => hM (hm _ z), RDs.weak hm hh ds vs h2⟩
  | .scr ns, v, h => by
    obtain ⟨a, rfl, h1⟩ := h
    exact ⟨a, rfl, hh ▸ h1⟩
theorem RDs.weak (hm : ∀ b, g2.M b → g.M b) (hh : g2.H = g.H) : ∀ (ds : List D) (vs : List V), RDs K g ds vs → RDs K g2 ds vs
  | [], vs, h => h
  | d :: ds, vs, h => by
    obtain ⟨v, vs', rfl, h1, h2⟩ := h
    exact ⟨v, vs', rfl, RD.weak hm hh d v h1, RDs.weak hm hh ds vs' h2⟩
end
/-- the same heap, other cells: what speaks of those below b alone -/
theorem RW.cut {b : Nat} (hm : ∀ b, g2.M b → g.M b) (hh : g2.H = g.H) (hr : ∀ n, n < b → g2.r[n]? = g.r[n]?) {w : W} {v : V} (h : RW K g w v) (hb : w.below b = true) : RW K g2 w v := by
  cases w with
  | d x => exact RD.weak hm hh x v h
  | loc n => obtain ⟨a, h1, rfl⟩ := h; exact ⟨a, by rw [hr n (of_decide_eq_true hb)]; exact h1, rfl⟩
theorem RWs.cut {b : Nat} (hm : ∀ b, g2.M b → g.M b) (hh : g2.H = g.H) (hr : ∀ n, n < b → g2.r[n]? = g.r[n]?) : ∀ {ws : List W} {vs : List V}, RWs K g ws vs → ws.all (W.below b) = true → RWs K g2 ws vs
  | [], vs, h, _ => h
  | w :: ws, vs, ⟨v, vs', e, h1, h2⟩, hb => by
    rw [List.all_cons, Bool.and_eq_true] at hb
    exact ⟨v, vs', e, h1.cut hm hh hr hb.1, RWs.cut hm hh hr h2 hb.2⟩
theorem RKs.cut {κ : Type} {b : Nat} (hm : ∀ b, g2.M b → g.M b) (hh : g2.H = g.H) (hr : ∀ n, n < b → g2.r[n]? = g.r[n]?) : ∀ {ws : List (κ × W)} {vs : List (κ × V)}, RKs K g ws vs → (ws.all fun kv => kv.2.below b) = true → RKs K g2 ws vs
  | [], vs, h, _ => h
  | w :: ws, vs, ⟨v, vs', e, h1, h2⟩, hb => by
    rw [List.all_cons, Bool.and_eq_true] at hb
    exact ⟨v, vs', e, h1.cut hm hh hr hb.1, RKs.cut hm hh hr h2 hb.2⟩
theorem CellR.cut {c : Cfg} {b : Nat} (hm : ∀ b, g2.M b → g.M b) (hh : g2.H = g.H) (hr : ∀ n, n < b → g2.r[n]? = g.r[n]?) {a : Addr} {ce : Cell} (h : CellR c g a ce) (hb : ce.below b = true) : CellR c g2 a ce := by
  cases ce with
  | lst ws => obtain ⟨vs, h1, h2⟩ := h; exact ⟨vs, hh ▸ h1, h2.cut hm hh hr hb⟩
  | dct ws => obtain ⟨vs, h1, h2⟩ := h; exact ⟨vs, hh ▸ h1, h2.cut hm hh hr hb⟩
  | ins cl ws => obtain ⟨C, dx, vs, h0, h1, h2⟩ := h; exact ⟨C, dx, vs, h0, hh ▸ h1, h2.cut hm hh hr hb⟩
end
theorem allD_map : ∀ {ws : List W} {ds : List D}, allD ws = some ds → ws = ds.map .d
  | [], ds, h => by cases h; rfl
  | .d x :: ws, ds, h => by
    cases e : allD ws with
    | none => simp only [allD, e, Option.map_none] at h; cases h
    | some es =>
      simp only [allD, e, Option.map_some] at h
      cases h
      rw [allD_map e]; rfl
  | .loc n :: ws, ds, h => by cases h
section
variable {c : Cfg} {g g' : Gh} {S S1 : Sto}
/-- the callee's beginning: none of the caller's cells -/
def Gh.bare (g : Gh) : Gh := { g with r := [] }
theorem Rl.bare (R : Rl c g S) : Rl c g.bare [] := ⟨rfl, List.nodup_nil, fun _ h => (nomatch h), fun _ _ _ h => (by cases h), R.tab, R.some_⟩
theorem RWs.bare {ws : List W} {ds : List D} {vs : List V} (h : allD ws = some ds) (r : RWs c.K g ws vs) : RWs c.K g.bare ws vs := by
  rw [allD_map h]
  exact RWs.ofD (RDs.weak (g := g) (g2 := g.bare) (fun _ z => z) rfl _ _ (RDs.ofW h r))
/-- behind a call that saw no cell: the address a (if any) is data from here on -/
def Gh.back (g g' : Gh) (q : Addr → Prop) : Gh := { M := fun b => g'.M b ∧ ¬ q b, r := g.r, H := g'.H }
theorem back_ok (R : Rl c g S) (e : Ext g.bare g') (R' : Rl c g' S1) {q : Addr → Prop} (hq : ∀ b, q b → g.H b = none) : Ext g (g.back g' q) ∧ Rl c (g.back g' q) S := by
  have ex : Ext g (g.back g' q) := {
    pre := fun _ _ h => h
    keep := fun b o h _ ht => e.keep b o h (fun z => nomatch z) ht
    grow := fun b h => e.grow b h.1
    old := fun b h => ⟨e.old b h, fun z => R.some_ b h (hq b z)⟩
    fresh := fun n a h hn => by rw [show (g.back g' q).r = g.r from rfl, List.getElem?_eq_none hn] at h; cases h
    st := fun b h => e.st b h }
  refine ⟨ex, R.len, R.nd, fun a h => ex.old a (R.mem a h), fun n ce a h1 h2 => ?_, R'.tab, fun a h => R'.some_ a h.1⟩
  have h2' : g.r[n]? = some a := h2
  have hc := R.cell n ce a h1 h2'
  obtain ⟨o, k1, _, _, k2⟩ := R.kind (List.mem_of_getElem? h2')
  refine hc.mono R ex ?_
  show g'.H a = g.H a
  rw [k1]
  exact e.keep a o k1 (fun z => nomatch z) k2
/-- a result read as data -/
theorem rd_back (R : Rl c g S) (e : Ext g.bare g') (R' : Rl c g' S1) {w : W} {v : V} {x : D} (r : RW c.K g' w v) (h : rdD S1 w = some x) :
    ∃ g2, Ext g g2 ∧ Rl c g2 S ∧ g2.H = g'.H ∧ RD c.K g2 x v := by
  cases w with
  | d y =>
    simp only [rdD] at h
    cases h
    obtain ⟨e2, R2⟩ := back_ok (q := fun _ => False) R e R' (fun _ z => z.elim)
    exact ⟨_, e2, R2, rfl, RD.weak (g2 := g.back g' _) (fun _ z => z.1) rfl _ _ r⟩
  | loc n =>
    simp only [rdD] at h
    split at h
    · rename_i ws hs
      obtain ⟨a, rfl, hn, vs, h1, h2⟩ := cell_of R' r hs
      cases ea : allD ws with
      | none => rw [ea] at h; cases h
      | some ds =>
        rw [ea] at h; cases h
        obtain ⟨e2, R2⟩ := back_ok (q := fun b => b = a) R e R' (fun b z => by rw [z]; exact e.fresh n a hn (Nat.zero_le _))
        exact ⟨_, e2, R2, rfl, a, vs, rfl, h1, fun z => z.2 rfl, RDs.weak (g2 := g.back g' _) (fun _ z => z.1) rfl _ _ (RDs.ofW ea h2)⟩
    · cases h
/-- a new cell handed out -/
theorem cell_back (R : Rl c g S) (e : Ext g.bare g') (R' : Rl c g' S1) {n : Nat} {v : V} {ce : Cell} (r : RW c.K g' (.loc n) v) (h : S1[n]? = some ce) (hb : ce.below 0 = true) :
    ∃ g2, Ext g g2 ∧ Rl c g2 (S ++ [ce]) ∧ g2.H = g'.H ∧ RW c.K g2 (.loc S.length) v := by
  obtain ⟨a, rfl, hn, hc⟩ := cell_of R' r h
  have ha : g.H a = none := e.fresh n a hn (Nat.zero_le _)
  obtain ⟨e2, R2⟩ := back_ok (q := fun _ => False) R e R' (fun _ z => z.elim)
  have hr : a ∉ g.r := fun z => R.some_ a (R.mem a z) ha
  let g2 : Gh := { M := fun b => g'.M b ∧ ¬ False, r := g.r ++ [a], H := g'.H }
  have e3 : Ext g g2 := {
    pre := fun n a' h => by
      show (g.r ++ [a])[n]? = some a'
      rw [List.getElem?_append_left (List.getElem?_eq_some_iff.mp h).1]; exact h
    keep := e2.keep
    grow := e2.grow
    old := e2.old
    fresh := fun m a' h hm => by
      have h1 : (g.r ++ [a])[m]? = some a' := h
      rw [List.getElem?_append_right hm] at h1
      have h2 : a' ∈ [a] := List.mem_of_getElem? h1
      rw [List.mem_singleton.mp h2]; exact ha
    st := e2.st }
  have hM : g'.M a := R'.mem a (List.mem_of_getElem? hn)
  refine ⟨g2, e3, ⟨?_, ?_, fun b hb' => ?_, fun m ce' b h1 h2 => ?_, R'.tab, fun b z => R'.some_ b z.1⟩, rfl, a, ?_, rfl⟩
  · show (g.r ++ [a]).length = (S ++ [ce]).length
    rw [List.length_append, List.length_append, R.len]; rfl
  · show (g.r ++ [a]).Nodup
    rw [List.nodup_append]
    refine ⟨R.nd, by simp, fun x hx y hy => ?_⟩
    rw [List.mem_singleton.mp hy]
    exact fun z => hr (z ▸ hx)
  · have h1 : b ∈ g.r ++ [a] := hb'
    rcases List.mem_append.mp h1 with h2 | h2
    · exact R2.mem b h2
    · rw [List.mem_singleton.mp h2]; exact ⟨hM, fun z => z⟩
  · have h3 : (g.r ++ [a])[m]? = some b := h2
    by_cases hm : m < S.length
    · rw [List.getElem?_append_left hm] at h1
      rw [List.getElem?_append_left (by rw [R.len]; exact hm)] at h3
      obtain ⟨o, k1, _, _, k2⟩ := R.kind (List.mem_of_getElem? h3)
      refine (R.cell m ce' b h1 h3).mono R e3 ?_
      show g'.H b = g.H b
      rw [k1]
      exact e.keep b o k1 (fun z => nomatch z) k2
    · rw [List.getElem?_append_right (by omega)] at h1
      rw [List.getElem?_append_right (by rw [R.len]; omega)] at h3
      have q1 : ce' ∈ [ce] := List.mem_of_getElem? h1
      have q2 : b ∈ [a] := List.mem_of_getElem? h3
      rw [List.mem_singleton.mp q1, List.mem_singleton.mp q2]
      exact hc.cut (g2 := g2) (fun _ z => z.1) rfl (fun n hn => absurd hn (Nat.not_lt_zero _)) hb
  · show (g.r ++ [a])[S.length]? = some a
    rw [← R.len, List.getElem?_append_right (Nat.le_refl _), Nat.sub_self]; rfl
/-- behind a call that saw the cells: its own ones go, if nothing speaks of them -/
theorem trim_ok (R : Rl c g S) (e : Ext g g') (R' : Rl c g' S1) {q : Addr → Prop} (hq : ∀ b, q b → g.H b = none) (hq2 : ¬ (S1.take S.length).all (Cell.below S.length) = true → ∀ b, ¬ q b) :
    ∃ g2, Ext g g2 ∧ Rl c g2 (trim S.length S1) ∧ g2.H = g'.H ∧ (∀ b, g2.M b → g'.M b) ∧ (∀ b, q b → ¬ g2.M b) ∧ ∀ n, n < S.length → g2.r[n]? = g'.r[n]? := by
  have hl : S.length ≤ S1.length := by
    rw [← R.len, ← R'.len]
    by_cases h0 : g.r.length = 0
    · omega
    · have h1 := e.pre (g.r.length - 1) _ (List.getElem?_eq_getElem (by omega))
      have := (List.getElem?_eq_some_iff.mp h1).1
      omega
  unfold trim
  by_cases h : (S1.take S.length).all (Cell.below S.length) = true
  · rw [if_pos h]
    let g2 : Gh := { M := fun b => g'.M b ∧ ¬ q b, r := g'.r.take S.length, H := g'.H }
    have hlt : ∀ n, n < S.length → g2.r[n]? = g'.r[n]? := fun n hn => by
      show (g'.r.take S.length)[n]? = _
      rw [List.getElem?_take_of_lt hn]
    have e2 : Ext g g2 := {
      pre := fun n a h1 => by
        have hn : n < S.length := by rw [← R.len]; exact (List.getElem?_eq_some_iff.mp h1).1
        rw [hlt n hn]; exact e.pre n a h1
      keep := e.keep
      grow := fun b z => e.grow b z.1
      old := fun b z => ⟨e.old b z, fun y => R.some_ b z (hq b y)⟩
      fresh := fun n a h1 hn => by
        have h2 : (g'.r.take S.length)[n]? = some a := h1
        rw [List.getElem?_eq_none (by rw [List.length_take, ← R.len]; omega)] at h2
        cases h2
      st := e.st }
    refine ⟨g2, e2, ⟨?_, ?_, fun b hb => ?_, fun n ce a h1 h2 => ?_, R'.tab, fun b z => R'.some_ b z.1⟩, rfl, fun _ z => z.1, fun b hb z => z.2 hb, hlt⟩
    · show (g'.r.take S.length).length = (S1.take S.length).length
      rw [List.length_take, List.length_take, R'.len]
    · exact R'.nd.sublist (List.take_sublist _ _)
    · have hb' : b ∈ g'.r.take S.length := hb
      obtain ⟨i, hi, rfl⟩ := List.getElem_of_mem hb'
      rw [List.length_take] at hi
      have h3 : (g'.r.take S.length)[i]? = some ((g'.r.take S.length)[i]) := List.getElem?_eq_getElem _
      rw [List.getElem?_take_of_lt (by omega)] at h3
      refine ⟨R'.mem _ (List.mem_of_getElem? h3), fun z => ?_⟩
      have hi2 : i < g.r.length := by rw [R.len]; omega
      have h4 : g.r[i]? = some (g.r[i]'hi2) := List.getElem?_eq_getElem hi2
      have h5 := e.pre i _ h4
      rw [h3] at h5
      have h6 := hq _ z
      rw [Option.some.inj h5] at h6
      exact R.some_ _ (R.mem _ (List.getElem_mem _)) h6
    · have hn : n < S.length := by
        have := (List.getElem?_eq_some_iff.mp h1).1
        rw [List.length_take] at this; omega
      rw [List.getElem?_take_of_lt hn] at h1
      rw [hlt n hn] at h2
      refine (R'.cell n ce a h1 h2).cut (g2 := g2) (b := S.length) (fun _ z => z.1) rfl hlt ?_
      rw [List.all_eq_true] at h
      exact h ce (List.mem_of_getElem? (by rw [List.getElem?_take_of_lt hn]; exact h1))
  · rw [if_neg h]
    exact ⟨g', e, R', rfl, fun _ z => z, fun b hb => (hq2 h b hb).elim, fun _ _ => rfl⟩
end
end Pc
set_option Elab.async false
set_option linter.all false
set_option maxRecDepth 100000
set_option autoImplicit false
set_option maxHeartbeats 1000000
/-! PcS6: expressions, construct by construct -/
namespace Pc
open PySem PySem.Spec PyProof.Rows L2

/-- a def's promise: its pure result -/
def spF (c : Cfg) (cl : Call) (f : Nat) : Sp := fun vs H Q E => ∃ g ws S, H = g.H ∧ Rl c g S ∧ RWs c.K g ws vs ∧ (PostW c (fun cls d _ H' => E cls d H') [] Q).p g (cl f ws S)

section
variable {c : Cfg} {cl : Call} {Wx : WX} {σ : L2.St} {g : Gh} {S : Sto} {Q : VK} {f : Nat}
theorem callF_ok {ws : List W} {vs : List V} (R : Rl c g S) (r : RWs c.K g ws vs) (h : (PostW c Wx σ Q).p g (callF cl f ws S)) : spF c cl f vs g.H Q (fun cls d H' => Wx cls d σ H') := by
  unfold callF at h
  split at h
  · rename_i ds hd
    refine ⟨g.bare, ws, [], rfl, R.bare, r.bare hd, ?_⟩
    cases hc : cl f ws [] with
    | ok w S1 =>
      rw [hc] at h
      obtain ⟨x, hx, h⟩ := PP.ofO _ h
      intro v g' e R' rw'
      obtain ⟨g2, e2, R2, hH, rd⟩ := rd_back R e R' rw' hx
      have q := h v g2 e2 R2 rd
      rw [hH] at q; exact q
    | exc x S1 =>
      rw [hc] at h
      intro cls d g' e R' rx
      obtain ⟨e2, R2⟩ := back_ok (q := fun _ => False) R e R' (fun _ z => z.elim)
      exact h cls d (g.back g' fun _ => False) e2 R2 rx
    | err => rw [hc] at h; exact h.elim
  · refine ⟨g, ws, S, rfl, R, r, ?_⟩
    cases hc : cl f ws S with
    | ok w S1 =>
      rw [hc] at h
      intro v g' e R' rw'
      simp only at h
      by_cases hb : w.below S.length = true
      · rw [if_pos hb] at h
        obtain ⟨g2, e2, R2, hH, hm, _, hr⟩ := trim_ok (q := fun _ => False) R e R' (fun _ z => z.elim) (fun _ _ z => z)
        have q := h v g2 e2 R2 (rw'.cut hm hH hr hb)
        rw [hH] at q; exact q
      · rw [if_neg hb] at h
        by_cases ht : (S1.take S.length).all (Cell.below S.length) = true
        · rw [if_pos ht] at h
          obtain ⟨x, hx, h⟩ := PP.ofO _ h
          cases w with
          | d y => exact absurd rfl hb
          | loc n =>
            simp only [rdD] at hx
            split at hx
            · rename_i us hs
              obtain ⟨a, rfl, hn, vs', h1, h2⟩ := cell_of R' rw' hs
              cases ea : allD us with
              | none => rw [ea] at hx; cases hx
              | some ds =>
                rw [ea] at hx; cases hx
                have hn' : ¬ n < S.length := fun z => hb (decide_eq_true z)
                obtain ⟨g2, e2, R2, hH, hm, hq, hr⟩ := trim_ok (q := fun b => b = a) R e R' (fun b z => by rw [z]; exact e.fresh n a hn (by rw [R.len]; omega)) (fun z => absurd ht z)
                have et : trim S.length S1 = S1.take S.length := by unfold trim; rw [if_pos ht]
                rw [et] at R2
                have q := h (.ref a) g2 e2 R2 ⟨a, vs', rfl, by rw [hH]; exact h1, hq a rfl, RDs.weak (g2 := g2) hm hH _ _ (RDs.ofW ea h2)⟩
                rw [hH] at q; exact q
            · cases hx
        · rw [if_neg ht] at h; exact h.elim
    | exc x S1 =>
      rw [hc] at h
      exact fun cls d g' e R' rx => h cls d g' e R' rx
    | err => rw [hc] at h; exact h.elim
theorem callN_ok {ws : List W} {vs : List V} (R : Rl c g S) (r : RWs c.K g ws vs) (h : (PostW c Wx σ Q).p g (callN cl f ws S)) : spF c cl f vs g.H Q (fun cls d H' => Wx cls d σ H') := by
  unfold callN at h
  split at h
  · rename_i ds hd
    refine ⟨g.bare, ws, [], rfl, R.bare, r.bare hd, ?_⟩
    cases hc : cl f ws [] with
    | ok w S1 =>
      rw [hc] at h
      cases w with
      | d y => exact h.elim
      | loc n =>
        simp only at h
        split at h
        · rename_i ce hs
          obtain ⟨hb, h⟩ := PP.ite _ h
          intro v g' e R' rw'
          obtain ⟨g2, e2, R2, hH, rd⟩ := cell_back R e R' rw' hs hb
          have q := h v g2 e2 R2 rd
          rw [hH] at q; exact q
        · exact h.elim
    | exc x S1 =>
      rw [hc] at h
      intro cls d g' e R' rx
      obtain ⟨e2, R2⟩ := back_ok (q := fun _ => False) R e R' (fun _ z => z.elim)
      exact h cls d (g.back g' fun _ => False) e2 R2 rx
    | err => rw [hc] at h; exact h.elim
  · refine ⟨g, ws, S, rfl, R, r, ?_⟩
    cases hc : cl f ws S with
    | ok w S1 => rw [hc] at h; exact h
    | exc x S1 => rw [hc] at h; exact fun cls d g' e R' rx => h cls d g' e R' rx
    | err => rw [hc] at h; exact h.elim
end

/-! ### what soundness is -/
section
variable (c : Cfg) (cl : Call) (X : Cx) (Wx : WX)
def SE (e : Expr) (ce : E) : Prop := ∀ (g : Gh) (S : Sto) (σ : L2.St) (env : Env) (Q : VK), Rl c g S → EnvR c.K g env σ → (PostW c Wx σ Q).p g (evE cl ce env S) → WE X e σ g.H Q
def SEs (es : List Expr) (ces : List E) : Prop := ∀ (g : Gh) (S : Sto) (σ : L2.St) (env : Env) (Q : List V → Hp → Prop), Rl c g S → EnvR c.K g env σ → (PostL c Wx σ Q).p g (evEs cl ces env S) → WA X es σ g.H Q
def ST (e : Expr) (ce : E) : Prop := ∀ (g : Gh) (S : Sto) (σ : L2.St) (env : Env) (Q : Bool → Hp → Prop), Rl c g S → EnvR c.K g env σ → (PostB c Wx σ Q).p g (evT cl ce env S) → WT X e σ g.H Q
/-- the state in the middle -/
def Mid {β : Type} (σ : L2.St) (env : Env) (g : Gh) (P : PP c Wx σ β) (f : W → Sto → R β) : VK := fun v H1 => ∃ g1 S1 w, H1 = g1.H ∧ Ext g g1 ∧ Rl c g1 S1 ∧ EnvR c.K g1 env σ ∧ RW c.K g1 w v ∧ P.p g1 (f w S1)
def MidL {β : Type} (σ : L2.St) (env : Env) (g : Gh) (P : PP c Wx σ β) (f : List W → Sto → R β) : List V → Hp → Prop := fun v H1 => ∃ g1 S1 w, H1 = g1.H ∧ Ext g g1 ∧ Rl c g1 S1 ∧ EnvR c.K g1 env σ ∧ RWs c.K g1 w v ∧ P.p g1 (f w S1)
def MidB {β : Type} (σ : L2.St) (env : Env) (g : Gh) (P : PP c Wx σ β) (f : Bool → Sto → R β) : Bool → Hp → Prop := fun v H1 => ∃ g1 S1, H1 = g1.H ∧ Ext g g1 ∧ Rl c g1 S1 ∧ EnvR c.K g1 env σ ∧ P.p g1 (f v S1)
end
section
variable {c : Cfg} {cl : Call} {X : Cx} {Wx : WX}
theorem SE.mid {β : Type} {e : Expr} {ce : E} (h : SE c cl X Wx e ce) {g : Gh} {S : Sto} {σ : L2.St} {env : Env} (P : PP c Wx σ β) {f : W → Sto → R β} (R : Rl c g S) (ev : EnvR c.K g env σ) (p : P.p g ((evE cl ce env S).bind f)) :
    WE X e σ g.H (Mid c Wx σ env g P f) := by
  refine h g S σ env _ R ev ?_
  cases he : evE cl ce env S with
  | ok w S1 => rw [he] at p; exact fun v g' e' R' r => ⟨g', S1, w, rfl, e', R', ev.mono R e', r, P.mono e' p⟩
  | exc x S1 => rw [he] at p; exact P.exc p
  | err => rw [he] at p; exact P.err p
theorem SEs.mid {β : Type} {e : List Expr} {ce : List E} (h : SEs c cl X Wx e ce) {g : Gh} {S : Sto} {σ : L2.St} {env : Env} (P : PP c Wx σ β) {f : List W → Sto → R β} (R : Rl c g S) (ev : EnvR c.K g env σ) (p : P.p g ((evEs cl ce env S).bind f)) :
    WA X e σ g.H (MidL c Wx σ env g P f) := by
  refine h g S σ env _ R ev ?_
  cases he : evEs cl ce env S with
  | ok w S1 => rw [he] at p; exact fun v g' e' R' r => ⟨g', S1, w, rfl, e', R', ev.mono R e', r, P.mono e' p⟩
  | exc x S1 => rw [he] at p; exact P.exc p
  | err => rw [he] at p; exact P.err p
theorem ST.mid {β : Type} {e : Expr} {ce : E} (h : ST c cl X Wx e ce) {g : Gh} {S : Sto} {σ : L2.St} {env : Env} (P : PP c Wx σ β) {f : Bool → Sto → R β} (R : Rl c g S) (ev : EnvR c.K g env σ) (p : P.p g ((evT cl ce env S).bind f)) :
    WT X e σ g.H (MidB c Wx σ env g P f) := by
  refine h g S σ env _ R ev ?_
  cases he : evT cl ce env S with
  | ok w S1 => rw [he] at p; exact fun v g' e' R' r => ⟨g', S1, rfl, e', R', ev.mono R e', by rw [← show w = v from r]; exact P.mono e' p⟩
  | exc x S1 => rw [he] at p; exact P.exc p
  | err => rw [he] at p; exact P.err p
theorem wx_pw {e : Expr} {ce : E} {σ : L2.St} {Q : VK} : ∀ {g : Gh} {r : R W}, (PostW c Wx σ Q).p g r → (PostW c Wx σ Q).p g r := fun h => h

/-! ### constants, names -/
theorem se_k {e : Expr} {d : D} {v : V} (h : PE X e (tC v)) (r : ∀ g, RD c.K g d v) : SE c cl X Wx e (.k d) := fun g S σ env Q R ev p =>
  we_of h (show Q v g.H from p v g (Ext.refl g) R (r g))
theorem se_var {x : Str} {pos : Pos} {i : Nat} (hN : X.N[i]? = some x) (hv : Vis X.env.scope x) (hd : (x == ("__debug__" : Str)) = false) (hcd : (x == ("__classdict__" : Str)) = false) : SE c cl X Wx (.Name x pos) (.var i) := fun g S σ env Q R ev p => by
  simp only [evE] at p
  obtain ⟨w, hw, p⟩ := PP.ofO1 _ p
  have hw' : env[i]? = some (some w) := by
    cases h : env[i]? with
    | none => rw [h] at hw; cases hw
    | some o => rw [h] at hw; rw [show o = some w from hw]
  obtain ⟨v, h1, h2⟩ := ev.at_ i w hw'
  exact we_of (pe_var hN hv hd hcd) ⟨v, h1, p v g (Ext.refl g) R h2⟩

/-! ### operators -/
theorem se_bin {a b : Expr} {ca cb : E} {o : BOp} {pos : Pos} (hK : X.K = c.K) (ha : SE c cl X Wx a ca) (hb : SE c cl X Wx b cb) : SE c cl X Wx (.BinOp a (bop o) b pos) (.bin o ca cb) := fun g S σ env Q R ev p => by
  refine we_of (pe_op (op_any X (binaryOp (bop o))) (pe_we X a) (pe_we X b)) ?_
  simp only [evE] at p
  refine (ha.mid _ R ev p).mono ?_
  rintro v _ ⟨g1, S1, x, rfl, e1, R1, ev1, rx, p1⟩
  refine (hb.mid _ R1 ev1 p1).mono ?_
  rintro u _ ⟨g2, S2, y, rfl, e2, R2, ev2, ry, p2⟩
  exact bin_ok o R2 (rx.mono R1 e2) ry p2 hK
theorem se_cmp {a b : Expr} {ca cb : E} {o : COp} {pos : Pos} (hK : X.K = c.K) (hu : X.A.units + 64 < cLine) (hm : behindInMarks (cop o) b = false) (ha : SE c cl X Wx a ca) (hb : SE c cl X Wx b cb) : SE c cl X Wx (.Compare a [cop o] [b] pos) (.cmp o ca cb) := fun g S σ env Q R ev p => by
  refine we_of (pe_cmpR (op_any X (compareOp (cop o))) (pe_we X a) (pe_we X b) hm) ?_
  simp only [evE] at p
  refine (ha.mid _ R ev p).mono ?_
  rintro v _ ⟨g1, S1, x, rfl, e1, R1, ev1, rx, p1⟩
  refine (hb.mid _ R1 ev1 p1).mono ?_
  rintro u _ ⟨g2, S2, y, rfl, e2, R2, ev2, ry, p2⟩
  exact cmp_ok o R2 (rx.mono R1 e2) ry p2 hK hu
/-- what a value's truth is -/
theorem bool_post {σ : L2.St} {Q : Bool → Hp → Prop} {g : Gh} {r : R W} (h : (PostB c Wx σ Q).p g (r.bind fun w S => ofO (truthW S w) S)) (hr : ∀ w S, r = .ok w S → ∃ b, w = .d (.bl b)) : (PostW c Wx σ (fun v H => ∃ k, v = .bl k ∧ Q k H)).p g r := by
  cases r with
  | ok w S =>
    obtain ⟨b, rfl⟩ := hr w S rfl
    exact fun v g' e R' rv => ⟨b, rv, h b g' e R' rfl⟩
  | exc x S => exact h
  | err => exact h
theorem cmpW_bl {o : COp} {x y : W} {S : Sto} : ∀ w S', cmpW o x y S = .ok w S' → ∃ b, w = .d (.bl b) := by
  intro w S' h
  unfold cmpW at h
  split at h <;> first
    | (cases h; exact ⟨_, rfl⟩)
    | (generalize eqW _ _ _ = o at h; cases o <;> first | (simp only [ofO, R.bind] at h; cases h; exact ⟨_, rfl⟩) | (simp only [ofO, R.bind] at h; cases h))
    | (split at h <;> first | (cases h; exact ⟨_, rfl⟩) | cases h)
    | cases h
theorem bind_asc {α β γ : Type} (r : R α) (f : α → Sto → R β) (k : β → Sto → R γ) : (r.bind f).bind k = r.bind fun a S => (f a S).bind k := by
  cases r <;> rfl
theorem st_cmp {a b : Expr} {ca cb : E} {o : COp} {pos : Pos} (hK : X.K = c.K) (hu : X.A.units + 64 < cLine) (hm : behindInMarks (cop o) b = false) (ha : SE c cl X Wx a ca) (hb : SE c cl X Wx b cb) : ST c cl X Wx (.Compare a [cop o] [b] pos) (.cmp o ca cb) := fun g S σ env Q R ev p => by
  refine wt_of (pt_cmpR (op_any X (compareOp (cop o))) (pe_we X a) (pe_we X b) hm) ?_
  simp only [evT, evE, bind_asc] at p
  refine (ha.mid _ R ev p).mono ?_
  rintro v _ ⟨g1, S1, x, rfl, e1, R1, ev1, rx, p1⟩
  refine (hb.mid _ R1 ev1 p1).mono ?_
  rintro u _ ⟨g2, S2, y, rfl, e2, R2, ev2, ry, p2⟩
  exact cmp_ok o R2 (rx.mono R1 e2) ry (bool_post p2 cmpW_bl) hK hu
theorem se_chn {a b e : Expr} {ca cb ce : E} {o o' : COp} {pos : Pos} (hK : X.K = c.K) (hu : X.A.units + 64 < cLine) (hm : lastMarks [cop o, cop o'] [b, e] = false) (ha : SE c cl X Wx a ca) (hb : SE c cl X Wx b cb) (he : SE c cl X Wx e ce) :
    SE c cl X Wx (.Compare a [cop o, cop o'] [b, e] pos) (.chn o o' ca cb ce) := fun g S σ env Q R ev p => by
  refine we_of (pe_chain (op_any X (compareOp (cop o))) (op_any X (compareOp (cop o'))) (pe_we X a) (pe_we X b) (pe_we X e) hm) ?_
  simp only [evE] at p
  refine (ha.mid _ R ev p).mono ?_
  rintro v _ ⟨g1, S1, x, rfl, e1, R1, ev1, rx, p1⟩
  refine (hb.mid _ R1 ev1 p1).mono ?_
  rintro u _ ⟨g2, S2, y, rfl, e2, R2, ev2, ry, p2⟩
  refine cmp_ok (Wx := Wx) (σ := σ) o R2 (rx.mono R1 e2) ry ?_ hK hu
  dsimp only at p2
  cases hc : cmpW o x y S2 with
  | err => rw [hc] at p2; exact p2
  | exc x S => rw [hc] at p2; exact p2
  | ok w S3 =>
    rw [hc] at p2
    obtain ⟨k, rfl⟩ := cmpW_bl w S3 hc
    intro v' g3 e3 R3 rv
    refine ⟨k, rv, ?_⟩
    cases k with
    | true =>
      rw [if_pos rfl]
      have p3 : (PostW c Wx σ Q).p g3 ((evE cl ce env S3).bind fun z S => cmpW o' y z S) := (PostW c Wx σ Q).mono e3 p2
      refine (he.mid _ R3 (ev2.mono R2 e3) p3).mono ?_
      rintro u' _ ⟨g4, S4, z, rfl, e4, R4, ev4, rz, p4⟩
      exact cmp_ok o' R4 (ry.mono R2 (e3.trans e4)) rz p4 hK hu
    | false =>
      rw [if_neg Bool.false_ne_true]
      exact p2 (.bl false) g3 e3 R3 rfl
theorem st_chn {a b e : Expr} {ca cb ce : E} {o o' : COp} {pos : Pos} (hK : X.K = c.K) (hu : X.A.units + 64 < cLine) (hm : lastMarks [cop o, cop o'] [b, e] = false) (ha : SE c cl X Wx a ca) (hb : SE c cl X Wx b cb) (he : SE c cl X Wx e ce) :
    ST c cl X Wx (.Compare a [cop o, cop o'] [b, e] pos) (.chn o o' ca cb ce) := fun g S σ env Q R ev p => by
  refine wt_of (pt_chain (op_any X (compareOp (cop o))) (op_any X (compareOp (cop o'))) (pe_we X a) (pe_we X b) (pe_we X e) hm) ?_
  simp only [evT, evE, bind_asc] at p
  refine (ha.mid _ R ev p).mono ?_
  rintro v _ ⟨g1, S1, x, rfl, e1, R1, ev1, rx, p1⟩
  refine (hb.mid _ R1 ev1 p1).mono ?_
  rintro u _ ⟨g2, S2, y, rfl, e2, R2, ev2, ry, p2⟩
  refine cmp_ok (Wx := Wx) (σ := σ) o R2 (rx.mono R1 e2) ry ?_ hK hu
  dsimp only at p2
  cases hc : cmpW o x y S2 with
  | err => rw [hc] at p2; exact p2
  | exc x S => rw [hc] at p2; exact p2
  | ok w S3 =>
    rw [hc] at p2
    obtain ⟨k, rfl⟩ := cmpW_bl w S3 hc
    intro v' g3 e3 R3 rv
    refine ⟨k, rv, ?_⟩
    cases k with
    | true =>
      rw [if_pos rfl]
      have p3 : (PostB c Wx σ Q).p g3 (((evE cl ce env S3).bind fun z S => cmpW o' y z S).bind fun w S => ofO (truthW S w) S) := (PostB c Wx σ Q).mono e3 p2
      rw [bind_asc] at p3
      refine (he.mid _ R3 (ev2.mono R2 e3) p3).mono ?_
      rintro u' _ ⟨g4, S4, z, rfl, e4, R4, ev4, rz, p4⟩
      exact cmp_ok o' R4 (ry.mono R2 (e3.trans e4)) rz (bool_post p4 cmpW_bl) hK hu
    | false =>
      rw [if_neg Bool.false_ne_true]
      exact ⟨false, rfl, p2 false g3 e3 R3 rfl⟩
theorem se_neg {a : Expr} {ca : E} {pos : Pos} (ha : SE c cl X Wx a ca) : SE c cl X Wx (.UnaryOp .USub a pos) (.neg ca) := fun g S σ env Q R ev p => by
  refine we_of (pe_un un_neg (pe_we X a)) ?_
  simp only [evE] at p
  refine (ha.mid _ R ev p).mono ?_
  rintro v _ ⟨g1, S1, x, rfl, e1, R1, ev1, rx, p1⟩
  dsimp only at p1
  split at p1
  · cases rx; exact ⟨_, rfl, ret_int R1 p1⟩
  · exact p1.elim

/-! ### truth -/
theorem se_and {a : Expr} {ca cb : E} {b : Expr} {rest : List Expr} {pos : Pos} (hK : X.K = c.K) (ha : SE c cl X Wx a ca) (hb : SE c cl X Wx (.BoolOp .And (b :: rest) pos) cb) : SE c cl X Wx (.BoolOp .And (a :: b :: rest) pos) (.and ca cb) := fun g S σ env Q R ev p => by
  refine we_of (pe_andT (pe_we X a) (pe_we X (.BoolOp .And (b :: rest) pos))) ?_
  simp only [evE] at p
  refine (ha.mid _ R ev p).mono ?_
  rintro v _ ⟨g1, S1, x, rfl, e1, R1, ev1, rx, p1⟩
  obtain ⟨k, hk, p1⟩ := PP.ofO _ p1
  refine ⟨k, hK ▸ truth_ok R1 rx hk, ?_⟩
  cases k with
  | true => rw [if_pos rfl]; exact hb g1 S1 σ env Q R1 ev1 p1
  | false => rw [if_neg Bool.false_ne_true]; exact ret_d R1 rx p1
theorem se_or {a : Expr} {ca cb : E} {b : Expr} {rest : List Expr} {pos : Pos} (hK : X.K = c.K) (ha : SE c cl X Wx a ca) (hb : SE c cl X Wx (.BoolOp .Or (b :: rest) pos) cb) : SE c cl X Wx (.BoolOp .Or (a :: b :: rest) pos) (.or ca cb) := fun g S σ env Q R ev p => by
  refine we_of (pe_orT (pe_we X a) (pe_we X (.BoolOp .Or (b :: rest) pos))) ?_
  simp only [evE] at p
  refine (ha.mid _ R ev p).mono ?_
  rintro v _ ⟨g1, S1, x, rfl, e1, R1, ev1, rx, p1⟩
  obtain ⟨k, hk, p1⟩ := PP.ofO _ p1
  refine ⟨k, hK ▸ truth_ok R1 rx hk, ?_⟩
  cases k with
  | false => rw [if_neg Bool.false_ne_true]; exact hb g1 S1 σ env Q R1 ev1 p1
  | true => rw [if_pos rfl]; exact ret_d R1 rx p1
theorem se_not {a : Expr} {ca : E} {pos : Pos} (hK : X.K = c.K) (ha : SE c cl X Wx a ca) : SE c cl X Wx (.UnaryOp .Not a pos) (.not ca) := fun g S σ env Q R ev p => by
  refine we_of (pe_notT (pe_we X a)) ?_
  simp only [evE] at p
  refine (ha.mid _ R ev p).mono ?_
  rintro v _ ⟨g1, S1, x, rfl, e1, R1, ev1, rx, p1⟩
  obtain ⟨k, hk, p1⟩ := PP.ofO _ p1
  exact ⟨k, hK ▸ truth_ok R1 rx hk, ret_bl R1 p1⟩
theorem st_plain {a : Expr} {ca : E} (hK : X.K = c.K) (he : ∀ whole, isTrue a X.env whole = (do let v ← whole; standAt a.pos; holding [v] (truthy v))) (ha : SE c cl X Wx a ca) : ST c cl X Wx a ca := fun g S σ env Q R ev p => by
  refine wt_of (pt_truth (pe_we X a) he) ?_
  unfold evT at p
  refine (ha.mid _ R ev p).mono ?_
  rintro v _ ⟨g1, S1, x, rfl, e1, R1, ev1, rx, p1⟩
  obtain ⟨k, hk, p1⟩ := PP.ofO1 _ p1
  exact ⟨k, hK ▸ truth_ok R1 rx hk, p1 k g1 (Ext.refl g1) R1 rfl⟩
theorem evT_and (a b : E) (env : Env) (S : Sto) : evT cl (.and a b) env S = (evT cl a env S).bind fun k S => if k then evT cl b env S else .ok false S := by
  unfold evT
  simp only [evE, bind_asc]
  congr 1
  funext x S
  cases h : truthW S x with
  | none => rfl
  | some k => cases k with
    | true => rfl
    | false => simp [ofO, R.bind, h]
theorem evT_or (a b : E) (env : Env) (S : Sto) : evT cl (.or a b) env S = (evT cl a env S).bind fun k S => if k then .ok true S else evT cl b env S := by
  unfold evT
  simp only [evE, bind_asc]
  congr 1
  funext x S
  cases h : truthW S x with
  | none => rfl
  | some k => cases k with
    | false => rfl
    | true => simp [ofO, R.bind, h]
theorem evT_not (a : E) (env : Env) (S : Sto) : evT cl (.not a) env S = (evT cl a env S).bind fun k S => .ok (!k) S := by
  unfold evT
  simp only [evE, bind_asc]
  congr 1
/-- a test within 'and', 'or' -/
def SW (c : Cfg) (cl : Call) (X : Cx) (Wx : WX) (e : Expr) (ce : E) : Prop := ∀ (g : Gh) (S : Sto) (σ : L2.St) (env : Env) (Q : Bool → Hp → Prop), Rl c g S → EnvR c.K g env σ → (PostB c Wx σ Q).p g (evT cl ce env S) →
  ∀ whole pins s, Inv X pins σ g.H s → wpAny (model X.prog X.w) X.A (isTrue e X.env whole) (TP X pins σ Q) X.xe s
theorem SW.st {e : Expr} {ce : E} (h : SW c cl X Wx e ce) : ST c cl X Wx e ce := fun g S σ env Q R ev p pins s I => h g S σ env Q R ev p _ pins s I
theorem sw_one {a : Expr} {ca : E} {pos : Pos} (op : BoolOp) (ha : ST c cl X Wx a ca) : SW c cl X Wx (.BoolOp op [a] pos) ca := fun g S σ env Q R ev p whole pins s I => by
  cases op with
  | And => exact (pw_and1 (pt_wt X a)).run whole pins s σ g.H Q I (ha g S σ env Q R ev p)
  | Or => exact (pw_or1 (pt_wt X a)).run whole pins s σ g.H Q I (ha g S σ env Q R ev p)
theorem sw_and {a b : Expr} {rest : List Expr} {ca cb : E} {pos : Pos} (ha : ST c cl X Wx a ca) (hb : SW c cl X Wx (.BoolOp .And (b :: rest) pos) cb) : SW c cl X Wx (.BoolOp .And (a :: b :: rest) pos) (.and ca cb) := fun g S σ env Q R ev p whole pins s I => by
  rw [evT_and] at p
  refine isTrue_and (thn (ha.mid _ R ev p pins s I) fun k s1 ⟨H1, I1, q1⟩ => ?_)
  obtain ⟨g1, S1, rfl, e1, R1, ev1, p1⟩ := q1
  cases k with
  | true => exact hb g1 S1 σ env Q R1 ev1 p1 whole pins s1 I1
  | false => exact ⟨_, I1, p1 false g1 (Ext.refl g1) R1 rfl⟩
theorem sw_or {a b : Expr} {rest : List Expr} {ca cb : E} {pos : Pos} (ha : ST c cl X Wx a ca) (hb : SW c cl X Wx (.BoolOp .Or (b :: rest) pos) cb) : SW c cl X Wx (.BoolOp .Or (a :: b :: rest) pos) (.or ca cb) := fun g S σ env Q R ev p whole pins s I => by
  rw [evT_or] at p
  refine isTrue_or (thn (ha.mid _ R ev p pins s I) fun k s1 ⟨H1, I1, q1⟩ => ?_)
  obtain ⟨g1, S1, rfl, e1, R1, ev1, p1⟩ := q1
  cases k with
  | false => exact hb g1 S1 σ env Q R1 ev1 p1 whole pins s1 I1
  | true => exact ⟨_, I1, p1 true g1 (Ext.refl g1) R1 rfl⟩
theorem st_not {a : Expr} {ca : E} {pos : Pos} (ha : ST c cl X Wx a ca) : ST c cl X Wx (.UnaryOp .Not a pos) (.not ca) := fun g S σ env Q R ev p => by
  refine wt_of (pt_not (pt_wt X a)) ?_
  rw [evT_not] at p
  intro pins s I
  refine thn (ha.mid _ R ev p pins s I) fun k s1 ⟨H1, I1, q1⟩ => ?_
  obtain ⟨g1, S1, rfl, e1, R1, ev1, p1⟩ := q1
  exact ⟨_, I1, p1 _ g1 (Ext.refl g1) R1 rfl⟩
theorem se_ife {t a b : Expr} {ct ca cb : E} {pos : Pos} (ht : ST c cl X Wx t ct) (ha : SE c cl X Wx a ca) (hb : SE c cl X Wx b cb) : SE c cl X Wx (.IfExp t a b pos) (.ife ct ca cb) := fun g S σ env Q R ev p => by
  refine we_of (pe_ifExp (pt_wt X t) (pe_we X a) (pe_we X b)) ?_
  simp only [evE] at p
  have p' : (PostW c Wx σ Q).p g ((evT cl ct env S).bind fun k S => if k then evE cl ca env S else evE cl cb env S) := by
    unfold evT; rw [bind_asc]; exact p
  intro pins s I
  refine thn (ht.mid _ R ev p' pins s I) fun k s1 ⟨H1, I1, q1⟩ => ?_
  obtain ⟨g1, S1, rfl, e1, R1, ev1, p1⟩ := q1
  refine ⟨_, I1, ?_⟩
  cases k with
  | true => rw [if_pos rfl]; exact ha g1 S1 σ env Q R1 ev1 p1
  | false => rw [if_neg Bool.false_ne_true]; exact hb g1 S1 σ env Q R1 ev1 p1

/-! ### lists of expressions, displays -/
def noStar : Expr → Bool
  | .Starred _ _ => false
  | _ => true
theorem star_cons {e : Expr} (h : noStar e = true) (es : List Expr) (env : PySem.Env) : starEach (e :: es) env = (false, eval e env) :: starEach es env := by
  cases e <;> first | rfl | cases h
theorem star_any : ∀ {es : List Expr} (pos : Pos) (env : PySem.Env), es.all noStar = true → (backTo pos (starEach es env)).any (·.1) = false
  | [], _, _, _ => rfl
  | e :: es, pos, env, h => by
    rw [List.all_cons, Bool.and_eq_true] at h
    rw [star_cons h.1]
    show (false || (backTo pos (starEach es env)).any (·.1)) = false
    rw [star_any pos env h.2]; rfl
theorem ses_nil : SEs c cl X Wx [] [] := fun g S σ env Q R ev p => wa_of pa_nil (show Q [] g.H from p [] g (Ext.refl g) R rfl)
theorem ses_cons {e : Expr} {es : List Expr} {ce : E} {ces : List E} (hs : noStar e = true) (h : SE c cl X Wx e ce) (ht : SEs c cl X Wx es ces) : SEs c cl X Wx (e :: es) (ce :: ces) := fun g S σ env Q R ev p => by
  refine wa_of (pa_cons (pe_we X e) (pa_wa X es) (star_cons hs es _)) ?_
  simp only [evEs] at p
  refine (h.mid _ R ev p).mono ?_
  rintro v _ ⟨g1, S1, x, rfl, e1, R1, ev1, rx, p1⟩
  refine (ht.mid _ R1 ev1 p1).mono ?_
  rintro vs _ ⟨g2, S2, xs, rfl, e2, R2, ev2, rxs, p2⟩
  exact p2 (v :: vs) g2 (Ext.refl g2) R2 ⟨v, vs, rfl, rx.mono R1 e2, rxs⟩
theorem evEs_len : ∀ {ces : List E} {env : Env} {S S1 : Sto} {ws : List W}, evEs cl ces env S = .ok ws S1 → ws.length = ces.length
  | [], env, S, S1, ws, h => by cases h; rfl
  | e :: es, env, S, S1, ws, h => by
    simp only [evEs] at h
    cases h1 : evE cl e env S with
    | err => rw [h1] at h; cases h
    | exc x S => rw [h1] at h; cases h
    | ok w S2 =>
      rw [h1] at h
      simp only [R.bind] at h
      cases h2 : evEs cl es env S2 with
      | err => rw [h2] at h; cases h
      | exc x S => rw [h2] at h; cases h
      | ok ws2 S3 => rw [h2] at h; cases h; simp [evEs_len h2]
theorem se_tup {es : List Expr} {ces : List E} {k : Nat} {pos : Pos} (hl : ces.length ≤ maxLen) (h : SEs c cl X Wx es ces) : SE c cl X Wx (.Tuple es k pos) (.tup ces) := fun g S σ env Q R ev p => by
  refine we_of (pe_tup (pa_wa X es)) ?_
  simp only [evE] at p
  have p' : (PostW c Wx σ Q).p g ((evEs cl ces env S).bind fun ws S' => if ws.length = ces.length then (ofO (allD ws) S').bind fun ds S => .ok (.d (.tup ds)) S else .err) := by
    cases he : evEs cl ces env S with
    | ok ws S1 => rw [he] at p; show (PostW c Wx σ Q).p g (if ws.length = ces.length then _ else _); rw [if_pos (evEs_len he)]; exact p
    | exc x S1 => rw [he] at p; exact p
    | err => rw [he] at p; exact p
  refine (h.mid _ R ev p').mono ?_
  rintro vs _ ⟨g1, S1, ws, rfl, e1, R1, ev1, rx, p1⟩
  obtain ⟨hq, p1⟩ := PP.ite _ p1
  obtain ⟨ds, hd, p1⟩ := PP.ofO _ p1
  exact ⟨by rw [← rx.length, hq, ← maxLen_eq]; exact hl, fun q hq => ret_tup R1 (RDs.ofW hd rx) p1 q hq⟩
theorem se_lst {es : List Expr} {ces : List E} {m : Bool} {pos : Pos} (hl : ces.length ≤ maxLen) (h : SEs c cl X Wx es ces) : SE c cl X Wx (.List es pos) (.lst m ces) := fun g S σ env Q R ev p => by
  refine we_of (pe_lst (pa_wa X es)) ?_
  simp only [evE] at p
  have p' : (PostW c Wx σ Q).p g ((evEs cl ces env S).bind fun ws S' => if ws.length = ces.length then (if m then .ok (.loc S'.length) (S' ++ [.lst ws]) else (ofO (allD ws) S').bind fun ds S => .ok (.d (.lst ds)) S) else .err) := by
    cases he : evEs cl ces env S with
    | ok ws S1 => rw [he] at p; show (PostW c Wx σ Q).p g (if ws.length = ces.length then _ else _); rw [if_pos (evEs_len he)]; exact p
    | exc x S1 => rw [he] at p; exact p
    | err => rw [he] at p; exact p
  refine (h.mid _ R ev p').mono ?_
  rintro vs _ ⟨g1, S1, ws, rfl, e1, R1, ev1, rx, p1⟩
  obtain ⟨hq, p1⟩ := PP.ite _ p1
  refine ⟨by rw [← rx.length, hq, ← maxLen_eq]; exact hl, fun q hq => ?_⟩
  cases m with
  | true => exact ret_cell R1 rx p1 q hq
  | false =>
    obtain ⟨ds, hd, p1⟩ := PP.ofO _ p1
    exact ret_lst R1 (RDs.ofW hd rx) p1 q hq

/-! ### subscripts -/
def noSlice : Expr → Bool
  | .Slice _ _ _ _ => false
  | _ => true
theorem plainIx {b : Expr} (h : noSlice b = true) : PlainIx b := fun o i => by
  cases b <;> first | rfl | cases h
theorem se_ix {a b : Expr} {ca cb : E} {pos : Pos} (hK : X.K = c.K) (hu : X.A.units + 64 < cLine) (hs : noSlice b = true) (ha : SE c cl X Wx a ca) (hb : SE c cl X Wx b cb) : SE c cl X Wx (.Subscript a b pos) (.ix ca cb) := fun g S σ env Q R ev p => by
  refine we_of (pe_ix (ix_any X) (pe_we X a) (pe_we X b) (plainIx hs)) ?_
  simp only [evE] at p
  refine (ha.mid _ R ev p).mono ?_
  rintro v _ ⟨g1, S1, x, rfl, e1, R1, ev1, rx, p1⟩
  refine (hb.mid _ R1 ev1 p1).mono ?_
  rintro u _ ⟨g2, S2, y, rfl, e2, R2, ev2, ry, p2⟩
  exact ix_ok R2 (rx.mono R1 e2) ry p2 hK hu
/-- a part of a slice -/
def SO (c : Cfg) (cl : Call) (X : Cx) (Wx : WX) (e : Option Expr) (ce : E) : Prop := match e with
  | none => ce = .nopart
  | some e => ce ≠ .nopart ∧ SE c cl X Wx e ce
def WO (X : Cx) (e : Option Expr) : TO := fun σ H Q => ∀ pins s, Inv X pins σ H s → wpAny (model X.prog X.w) X.A (evalPart e X.env) (fun u s' => ∃ o H', Inv X pins σ H' s' ∧ IsPart u o ∧ Q o H') X.xe s
theorem po_wo (X : Cx) (e : Option Expr) : PO X e (WO X e) := ⟨fun pins s σ H Q I h => h pins s I⟩
theorem SO.mid {β : Type} {e : Option Expr} {ce : E} (h : SO c cl X Wx e ce) {g : Gh} {S : Sto} {σ : L2.St} {env : Env} (P : PP c Wx σ β) {f : Option Int → Sto → R β} (R : Rl c g S) (ev : EnvR c.K g env σ)
    (p : P.p g ((evE cl ce env S).bind fun y S => (ofO (partW ce y) S).bind f)) : WO X e σ g.H (fun o H1 => ∃ g1 S1, H1 = g1.H ∧ Ext g g1 ∧ Rl c g1 S1 ∧ EnvR c.K g1 env σ ∧ P.p g1 (f o S1)) := by
  cases e with
  | none =>
    cases (show ce = .nopart from h)
    exact fun pins s I => po_none.run pins s σ g.H _ I ⟨g, S, rfl, Ext.refl g, R, ev, p⟩
  | some e =>
    obtain ⟨hn, h⟩ := h
    refine fun pins s I => (po_some (pe_we X e)).run pins s σ g.H _ I ?_
    refine (h.mid P R ev p).mono ?_
    rintro v _ ⟨g1, S1, y, rfl, e1, R1, ev1, ry, p1⟩
    obtain ⟨o, ho, p1⟩ := PP.ofO _ p1
    unfold partW at ho
    split at ho
    · exact absurd rfl hn
    · cases ry; cases ho; exact ⟨_, rfl, g1, S1, rfl, e1, R1, ev1, p1⟩
    · cases ho
theorem se_sl {a : Expr} {lo hi : Option Expr} {ca cl' ch : E} {pos p2 : Pos} (hK : X.K = c.K) (ha : SE c cl X Wx a ca) (hl : SO c cl X Wx lo cl') (hh : SO c cl X Wx hi ch) : SE c cl X Wx (.Subscript a (.Slice lo hi none p2) pos) (.sl ca cl' ch) := fun g S σ env Q R ev p => by
  refine we_of (pe_slice (sl_any X) (pe_we X a) (po_wo X lo) (po_wo X hi)) ?_
  simp only [evE] at p
  refine (ha.mid _ R ev p).mono ?_
  rintro v _ ⟨g1, S1, x, rfl, e1, R1, ev1, rx, p1⟩
  intro pins s I
  refine thn (hl.mid _ R1 ev1 p1 pins s I) fun u s2 ⟨o, H2, I2, pt, q2⟩ => ⟨o, H2, I2, pt, ?_⟩
  obtain ⟨g2, S2, rfl, e2, R2, ev2, p2⟩ := q2
  intro pins s I
  refine thn (hh.mid _ R2 ev2 p2 pins s I) fun u s2 ⟨o, H2, I2, pt, q2⟩ => ⟨o, H2, I2, pt, ?_⟩
  obtain ⟨g3, S3, rfl, e3, R3, ev3, p3⟩ := q2
  exact sl_ok R3 (rx.mono R1 (e2.trans e3)) p3 hK
end
end Pc
set_option Elab.async false
set_option linter.all false
set_option maxRecDepth 100000
set_option autoImplicit false
set_option maxHeartbeats 1000000
/-! PcS7: calls, methods, dicts, targets, what is walked -/
namespace Pc
open PySem PySem.Spec PyProof.Rows L2

section
variable {c : Cfg} {cl : Call} {X : Cx} {Wx : WX}
/-- seen from an earlier state -/
def PP.at {σ : L2.St} {β : Type} (P : PP c Wx σ β) (gb : Gh) : PP c Wx σ β where
  p := fun g r => P.p gb r ∧ Ext gb g
  mono := fun e h => ⟨h.1, h.2.trans e⟩
  exc := fun h cls d g' e R rx => P.exc h.1 cls d g' (h.2.trans e) R rx
  err := fun h => P.err h.1

/-- expressions one by one -/
inductive SEz (c : Cfg) (cl : Call) (X : Cx) (Wx : WX) : List Expr → List E → Prop
  | nil : SEz c cl X Wx [] []
  | cons {e : Expr} {ce : E} {es : List Expr} {ces : List E} : SE c cl X Wx e ce → SEz c cl X Wx es ces → SEz c cl X Wx (e :: es) (ce :: ces)
theorem SEz.ses {es : List Expr} {ces : List E} (h : SEz c cl X Wx es ces) : es.all noStar = true → SEs c cl X Wx es ces := by
  induction h with
  | nil => exact fun _ => ses_nil
  | cons h1 _ ih =>
    intro hs
    rw [List.all_cons, Bool.and_eq_true] at hs
    exact ses_cons hs.1 h1 (ih hs.2)
/-! ### calls by name -/
theorem se_call {x : Str} {p pos : Pos} {f : Nat} {e : Expr} {es : List Expr} {ces : List E} {m : Bool} {k : Nat} {a : Addr} {fd : FuncData} {ps : List Str} (tk : Takes X Wx) (F : FnOk X.prog X.w X.K X.mg X.base (CX X.prog X.w) k a fd ps (spF c cl f)) (hr : Room k X.A)
    (hg : Gl X x) (hm : X.mg x = some (.ref a)) (hk : PySem.W.keepIn X.K (.ref a) = true) (hb : Binds X.K fd ps []) (hdb : (x == ("__debug__" : Str)) = false) (hs : (e :: es).all noStar = true) (h : SEs c cl X Wx (e :: es) ces) :
    SE c cl X Wx (.Call (.Name x p) (e :: es) [] pos) (.call m f ces) := fun g S σ env Q R ev p => by
  rw [List.all_cons, Bool.and_eq_true] at hs
  refine we_of (pe_callS (E := fun σ => L2.WE Wx σ) F hr hg hm hk hb (fun σ => passAt tk σ) (pa_wa X (e :: es)) hdb (star_cons hs.1 es _) (star_any pos _ hs.2)) ?_
  simp only [evE] at p
  refine (h.mid _ R ev p).mono ?_
  rintro vs _ ⟨g1, S1, ws, rfl, e1, R1, ev1, rx, p1⟩
  cases m with
  | true => exact callN_ok R1 rx p1
  | false => exact callF_ok R1 rx p1
/-! ### built-in functions -/
theorem biV_boot (f : Bi) : f ≠ .gcd ∧ biX f = [] → bootBuiltins (biV f).1 = some (biV f).2 ∧ (biV f).1 ≠ "__name__" ∧ ((biV f).1 == ("__debug__" : Str)) = false := by
  intro h
  cases f
  case gcd => exact absurd rfl h.1
  case isinst t => exact absurd h.2 (by simp [biX])
  all_goals exact ⟨by decide +kernel, by decide, by decide⟩
theorem se_bi {p pos : Pos} {f : Bi} {e : Expr} {es : List Expr} {ces : List E} (hK : X.K = c.K) (hc : X.calm = true) (hf : f ≠ .gcd) (hf2 : biX f = []) (hg : Gl X (biV f).1) (hm : X.mg (biV f).1 = none) (hs : (e :: es).all noStar = true) (h : SEs c cl X Wx (e :: es) ces) :
    SE c cl X Wx (.Call (.Name (biV f).1 p) (e :: es) [] pos) (.bi f ces) := fun g S σ env Q R ev p => by
  rw [List.all_cons, Bool.and_eq_true] at hs
  obtain ⟨hb, hn, hd⟩ := biV_boot f ⟨hf, hf2⟩
  have rd : tCB (rAnyC X (biV f).2) (WA X (e :: es)) σ g.H Q := by
    simp only [evE] at p
    refine (h.mid _ R ev p).mono ?_
    rintro vs _ ⟨g1, S1, ws, rfl, e1, R1, ev1, rx, p1⟩
    have q := bi_ok f R1 rx p1 hK hc
    rw [hf2, List.append_nil] at q
    exact q
  have cc := cr_any X (biV f).2
  cases hv : (biV f).2 with
  | builtin id =>
    rw [hv] at rd hb cc
    exact we_of (pe_callB cc hg hm hb (pa_wa X (e :: es)) hn hd (star_cons hs.1 es _) (star_any pos _ hs.2)) rd
  | type T =>
    rw [hv] at rd hb cc
    exact we_of (pe_callTy cc hg hm hb (pa_wa X (e :: es)) hn hd (star_cons hs.1 es _) (star_any pos _ hs.2)) rd
  | _ => cases f <;> cases hv
theorem se_gcd {p pos : Pos} {e : Expr} {es : List Expr} {ces : List E} (hK : X.K = c.K) (hc : X.calm = true) (hg : Gl X "gcd") (hm : X.mg "gcd" = some (.builtin "math.gcd")) (hs : (e :: es).all noStar = true) (h : SEs c cl X Wx (e :: es) ces) :
    SE c cl X Wx (.Call (.Name "gcd" p) (e :: es) [] pos) (.bi .gcd ces) := fun g S σ env Q R ev p => by
  rw [List.all_cons, Bool.and_eq_true] at hs
  refine we_of (pe_callBfun (cr_any X (.builtin "math.gcd")) hg hm (pa_wa X (e :: es)) (by decide) (star_cons hs.1 es _) (star_any pos _ hs.2)) ?_
  simp only [evE] at p
  refine (h.mid _ R ev p).mono ?_
  rintro vs _ ⟨g1, S1, ws, rfl, e1, R1, ev1, rx, p1⟩
  have q := bi_ok .gcd R1 rx p1 hK hc
  rw [show biX .gcd = [] from rfl, List.append_nil] at q
  exact q
def tyS : Ty → Str
  | .int => "int" | .bool => "bool" | .str => "str" | .tuple => "tuple" | .list => "list"
theorem tyS_boot (t : Ty) : bootBuiltins (tyS t) = some (.type (tyV' t)) ∧ tyS t ≠ "__name__" ∧ (tyS t == ("__debug__" : Str)) = false := by
  cases t <;> exact ⟨by decide +kernel, by decide, by decide⟩
theorem se_isinst {p pos p2 : Pos} {t : Ty} {e : Expr} {ce : E} (hK : X.K = c.K) (hc : X.calm = true) (hg : Gl X "isinstance") (hm : X.mg "isinstance" = none) (hg2 : Gl X (tyS t)) (hm2 : X.mg (tyS t) = none) (hs : noStar e = true) (h : SE c cl X Wx e ce) :
    SE c cl X Wx (.Call (.Name "isinstance" p) [e, .Name (tyS t) p2] [] pos) (.bi (.isinst t) [ce]) := fun g S σ env Q R ev p => by
  obtain ⟨hb, hn, hd⟩ := tyS_boot t
  refine we_of (pe_callB (cr_any X (.builtin "isinstance")) hg hm (by decide +kernel) (pa_cons (pe_we X e) (pa_cons (pe_bltn (v := .ty (tyV' t)) hg2 hm2 hb rfl hn hd) pa_nil) (star_cons hs _ _)) (by decide) (by decide) (star_cons hs _ _) rfl) ?_
  simp only [evE, evEs] at p
  rw [bind_asc] at p
  refine (h.mid _ R ev p).mono ?_
  rintro v _ ⟨g1, S1, w, rfl, e1, R1, ev1, rx, p1⟩
  exact bi_ok (.isinst t) R1 (show RWs c.K g1 [w] [v] from ⟨v, [], rfl, rx, rfl⟩) p1 hK hc

/-! ### methods of built-in types -/
def noSup : Expr → Bool
  | .Call _ [] [] _ => false
  | _ => true
theorem attr_base {o : Expr} (h : noSup o = true) (a : Str) (env : PySem.Env) (w : Sem Value) : attributeBase o a env w = w := by
  unfold attributeBase
  split
  · cases h
  · rfl
theorem few_ok {es : List Expr} (pos : Pos) (env : PySem.Env) (h : es.all noStar = true) (hl : es.length < 29) : ((backTo pos (starEach es env)).all (fun x => !x.1) && (backToKw pos (keywordEach [] env)).all (fun x => x.1.isSome)
      && decide (es.length + ([] : List Keyword).length + (if ([] : List Keyword).isEmpty then 0 else 1) < 30)) = true := by
  have h1 := star_any pos env h
  rw [Bool.and_eq_true, Bool.and_eq_true]
  refine ⟨⟨?_, rfl⟩, decide_eq_true (by simp; omega)⟩
  rw [List.all_eq_true]
  rw [List.any_eq_false] at h1
  intro x hx
  have := h1 x hx
  simpa using this
theorem se_append {o e : Expr} {co ce : E} {apos cpos : Pos} (hK : X.K = c.K) (ho : noSup o = true) (hline : (apos.endLine == cpos.line) = true) (hs : noStar e = true) (h1 : SE c cl X Wx o co) (h2 : SE c cl X Wx e ce) :
    SE c cl X Wx (.Call (.Attribute o "append" apos) [e] [] cpos) (.bm .append co [ce]) := fun g S σ env Q R ev p => by
  have ha : [e].all noStar = true := by simp [hs]
  refine we_of (pe_bm PySem.F.plainAttrs_list PySem.F.slot_list_append PySem.F.type_list_append mt_append (pe_we X o) (pa_cons (pe_we X e) pa_nil (star_cons hs _ _)) (attr_base ho _ _ _) (few_ok cpos _ ha (by simp)) hline (star_cons hs _ _) rfl) ?_
  simp only [evE] at p
  refine (h1.mid _ R ev p).mono ?_
  rintro v _ ⟨g1, S1, x, rfl, e1, R1, ev1, rx, p1⟩
  obtain ⟨hr, p1⟩ := PP.ite _ p1
  rcases recv_ty R1 rx hr with ⟨z, _⟩ | ⟨_, ty⟩
  · cases z
  refine ⟨hK ▸ ty, ?_⟩
  simp only [evEs, bind_asc] at p1
  refine (h2.mid _ R1 ev1 p1).mono ?_
  rintro u _ ⟨g2, S2, y, rfl, e2, R2, ev2, ry, p2⟩
  exact bm_append (ws := [y]) R2 (rx.mono R1 e2) ⟨u, [], rfl, ry, rfl⟩ p2
theorem se_sort {o : Expr} {co : E} {apos cpos : Pos} (hK : X.K = c.K) (ho : noSup o = true) (hline : (apos.endLine == cpos.line) = true) (h1 : SE c cl X Wx o co) :
    SE c cl X Wx (.Call (.Attribute o "sort" apos) [] [] cpos) (.bm .sort co []) := fun g S σ env Q R ev p => by
  refine we_of (pe_bm0 PySem.F.plainAttrs_list PySem.F.slot_list_sort PySem.F.type_list_sort mt_sortI (pe_we X o) (attr_base ho _ _ _) hline) ?_
  simp only [evE] at p
  refine (h1.mid _ R ev p).mono ?_
  rintro v _ ⟨g1, S1, x, rfl, e1, R1, ev1, rx, p1⟩
  obtain ⟨hr, p1⟩ := PP.ite _ p1
  rcases recv_ty R1 rx hr with ⟨z, _⟩ | ⟨_, ty⟩
  · cases z
  refine ⟨hK ▸ ty, ?_⟩
  simp only [evEs] at p1
  exact (bm_sort (ws := []) R1 rx rfl p1).2
theorem se_get1 {o e : Expr} {co ce : E} {apos cpos : Pos} (hu : X.A.units + 64 < cLine) (ho : noSup o = true) (hline : (apos.endLine == cpos.line) = true) (hs : noStar e = true) (h1 : SE c cl X Wx o co) (h2 : SE c cl X Wx e ce) :
    SE c cl X Wx (.Call (.Attribute o "get" apos) [e] [] cpos) (.bm .get co [ce]) := fun g S σ env Q R ev p => by
  have ha : [e].all noStar = true := by simp [hs]
  refine we_of (pe_dget1 (by omega) (pe_we X o) (pe_we X e) ⟨attr_base ho _ _ _, few_ok cpos _ ha (by simp), hline, by rw [star_cons hs]; rfl⟩) ?_
  simp only [evE] at p
  refine (h1.mid _ R ev p).mono ?_
  rintro v _ ⟨g1, S1, x, rfl, e1, R1, ev1, rx, p1⟩
  obtain ⟨hr, p1⟩ := PP.ite _ p1
  rcases recv_ty R1 rx hr with ⟨_, a, kvs, rfl, hd⟩ | ⟨z, _⟩
  · refine ⟨a, rfl, .inl ⟨kvs, .inl hd⟩, ?_⟩
    simp only [evEs, bind_asc] at p1
    refine (h2.mid _ R1 ev1 p1).mono ?_
    rintro u _ ⟨g2, S2, y, rfl, e2, R2, ev2, ry, p2⟩
    obtain ⟨a', kvs', k, o', ea, h3, h4, h5⟩ := bm_get (ws := [y]) (vs := [u]) R2 (rx.mono R1 e2) ⟨u, [], rfl, ry, rfl⟩ p2
    cases ea
    rcases h5 with ⟨h5, h6⟩ | ⟨d, h5, _⟩
    · cases h5
      exact ⟨o', by rw [h4]; exact DGet.k h3, h6⟩
    · cases h5
  · exact absurd rfl z
theorem se_get2 {o e f : Expr} {co ce cf : E} {apos cpos : Pos} (hu : X.A.units + 64 < cLine) (ho : noSup o = true) (hline : (apos.endLine == cpos.line) = true) (hs : noStar e = true) (hs2 : noStar f = true) (h1 : SE c cl X Wx o co) (h2 : SE c cl X Wx e ce) (h3 : SE c cl X Wx f cf) :
    SE c cl X Wx (.Call (.Attribute o "get" apos) [e, f] [] cpos) (.bm .get co [ce, cf]) := fun g S σ env Q R ev p => by
  have ha : [e, f].all noStar = true := by simp [hs, hs2]
  refine we_of (pe_dget2 (by omega) (pe_we X o) (pe_we X e) (pe_we X f) ⟨attr_base ho _ _ _, few_ok cpos _ ha (by simp), hline, by rw [star_cons hs, star_cons hs2]; rfl⟩) ?_
  simp only [evE] at p
  refine (h1.mid _ R ev p).mono ?_
  rintro v _ ⟨g1, S1, x, rfl, e1, R1, ev1, rx, p1⟩
  obtain ⟨hr, p1⟩ := PP.ite _ p1
  rcases recv_ty R1 rx hr with ⟨_, a, kvs, rfl, hd⟩ | ⟨z, _⟩
  · refine ⟨a, rfl, .inl ⟨kvs, .inl hd⟩, ?_⟩
    simp only [evEs, bind_asc] at p1
    refine (h2.mid _ R1 ev1 p1).mono ?_
    rintro u _ ⟨g2, S2, y, rfl, e2, R2, ev2, ry, p2⟩
    refine (h3.mid _ R2 ev2 p2).mono ?_
    rintro u' _ ⟨g3, S3, y', rfl, e3, R3, ev3, ry', p3⟩
    obtain ⟨a', kvs', k, o', ea, q3, h4, h5⟩ := bm_get (ws := [y, y']) (vs := [u, u']) R3 (rx.mono R1 (e2.trans e3)) ⟨u, [u'], rfl, ry.mono R2 e3, u', [], rfl, ry', rfl⟩ p3
    cases ea
    rcases h5 with ⟨h5, h6⟩ | ⟨d, h5, h6⟩
    · cases h5
    · cases h5
      exact ⟨o', by rw [h4]; exact DGet.k q3, h6⟩
  · exact absurd rfl z

/-! ### a written dict -/
def keyE : Expr → Option Key
  | .Constant (.int i) _ _ => some (.inl i)
  | .Constant (.str x) _ _ => some (.inr x)
  | _ => none
def keysE : List (Option Expr) → Option (List Key)
  | [] => some []
  | some e :: r => match keyE e, keysE r with
    | some k, some ks => some (k :: ks)
    | _, _ => none
  | none :: _ => none
theorem keyE_pe {e : Expr} {k : Key} (h : keyE e = some k) : PE X e (tC (kV k)) := by
  unfold keyE at h
  split at h <;> first | (cases h; exact pe_int) | (cases h; exact pe_str) | cases h
def trsOf (X : Cx) : List Key → List Expr → List (TE × TE)
  | k :: ks, e :: es => (tC (kV k), WE X e) :: trsOf X ks es
  | _, _ => []
theorem trs_pps {pos : Pos} : ∀ {keys : List (Option Expr)} {ks : List Key} {es : List Expr}, keysE keys = some ks → keys.length = es.length → PPs X pos keys es (trsOf X ks es)
  | [], ks, [], h, _ => by cases h; exact pps_nil
  | [], ks, _ :: _, h, hl => by cases hl
  | some e :: r, ks, [], h, hl => by cases hl
  | some e :: r, ks, v :: es, h, hl => by
    unfold keysE at h
    split at h
    · rename_i k ks' h1 h2
      cases h
      exact pps_cons (keyE_pe h1) (pe_we X v) (trs_pps h2 (by simpa using hl))
    · cases h
  | none :: r, ks, es, h, _ => by cases h
theorem keysE_all : ∀ {keys : List (Option Expr)} {ks : List Key}, keysE keys = some ks → keys.all (·.isSome) = true ∧ keys.length = ks.length
  | [], ks, h => by cases h; exact ⟨rfl, rfl⟩
  | some e :: r, ks, h => by
    unfold keysE at h
    split at h
    · rename_i k ks' h1 h2
      cases h
      obtain ⟨a, b⟩ := keysE_all h2
      exact ⟨by rw [List.all_cons, a]; rfl, by simp [b]⟩
    · cases h
  | none :: r, ks, h => by cases h
theorem pairs_mono {σ : L2.St} {Q Q' : List (V × V) → Hp → Prop} (hq : ∀ ps H, Q ps H → Q' ps H) : ∀ {ks : List Key} {es : List Expr} {H : Hp}, tPairs (trsOf X ks es) σ H Q → tPairs (trsOf X ks es) σ H Q' := by
  intro ks
  induction ks generalizing Q Q' with
  | nil => intro es H h; exact hq _ _ h
  | cons k ks ih =>
    intro es H h
    cases es with
    | nil => exact hq _ _ h
    | cons e es =>
      have h' : WE X e σ H (fun y H2 => tPairs (trsOf X ks es) σ H2 fun ps H3 => Q ((kV k, y) :: ps) H3) := h
      exact h'.mono fun y H2 q => ih (fun ps H3 => hq _ _) q
theorem pairs_ok {β : Type} {σ : L2.St} {env : Env} : ∀ {ks : List Key} {es : List Expr} {ces : List E} (P : PP c Wx σ β) {g : Gh} {S : Sto} {f : List W → Sto → R β}, ks.length = es.length → SEz c cl X Wx es ces → Rl c g S → EnvR c.K g env σ →
    P.p g ((evEs cl ces env S).bind f) → tPairs (trsOf X ks es) σ g.H (fun ps H' => ∃ g1 S1 ws vs, H' = g1.H ∧ Ext g g1 ∧ Rl c g1 S1 ∧ RWs c.K g1 ws vs ∧ ws.length = ks.length ∧ ps = (ks.zip vs).map (fun kv => (kV kv.1, kv.2)) ∧ P.p g1 (f ws S1)) := by
  intro ks
  induction ks with
  | nil =>
    intro es ces P g S f hl h R ev p
    cases es with
    | cons _ _ => cases hl
    | nil =>
      cases h
      exact ⟨g, S, [], [], rfl, Ext.refl g, R, rfl, rfl, rfl, p⟩
  | cons k ks ih =>
    intro es ces P g S f hl h R ev p
    cases es with
    | nil => cases hl
    | cons e es =>
      cases h with
      | cons h1 h2 =>
        simp only [evEs, bind_asc] at p
        show WE X e σ g.H _
        refine (h1.mid P R ev p).mono ?_
        rintro v _ ⟨g1, S1, x, rfl, e1, R1, ev1, rx, p1⟩
        have q := ih P (f := fun ws S => f (x :: ws) S) (by simpa using hl) h2 R1 ev1 p1
        refine pairs_mono (fun ps H' hq => ?_) q
        obtain ⟨g2, S2, ws, vs, rfl, e2, R2, rw2, hl2, rfl, p2⟩ := hq
        exact ⟨g2, S2, x :: ws, v :: vs, rfl, e1.trans e2, R2, ⟨v, vs, rfl, rx.mono R1 e2, rw2⟩, by simp [hl2], rfl, p2⟩
/-- a new object that is not yet a cell -/
def Gh.pend (g : Gh) (p : Addr) (o : HO) : Gh := { M := fun b => g.M b ∨ b = p, r := g.r, H := upd g.H p o }
theorem pend_ok {g : Gh} {S : Sto} {p : Addr} {o : HO} (R : Rl c g S) (hp : g.H p = none) : Ext g (g.pend p o) ∧ Rl c (g.pend p o) S := by
  have e : Ext g (g.pend p o) := {
    pre := fun _ _ h => h
    keep := (ext_put R hp).keep
    grow := fun b h => h.elim .inl fun z => .inr (by rw [z]; exact hp)
    old := fun _ h => .inl h
    fresh := fun n a h hn => by rw [show (g.pend p o).r = g.r from rfl, List.getElem?_eq_none hn] at h; cases h
    st := (ext_put R hp).st }
  refine ⟨e, R.len, R.nd, fun a h => .inl (R.mem a h), fun n ce a h1 h2 => ?_, (rl_put (o := o) R hp).tab, fun a h => ?_⟩
  · have h2' : g.r[n]? = some a := h2
    refine (R.cell n ce a h1 h2').mono R e ?_
    show upd g.H p o a = g.H a
    refine upd_ne fun z => ?_
    have h4 := R.some_ a (R.mem a (List.mem_of_getElem? h2'))
    rw [z] at h4; exact h4 hp
  · rcases h with h | h
    · exact e.st a (R.some_ a h)
    · rw [h]; show upd g.H p o p ≠ none; rw [upd_same]; exact fun z => nomatch z
/-- a list or a dict -/
def isLD : HO → Prop
  | .lst _ => True
  | .dK _ => True
  | _ => False
theorem isLD.tup {o : HO} (h : isLD o) (xs : List V) : o ≠ .tup xs := fun z => by rw [z] at h; exact h
theorem isLD.frz {o : HO} (h : isLD o) (ob : Obj) (u : HO) : o ≠ .frz ob u := fun z => by rw [z] at h; exact h
theorem isLD.tbl {o : HO} (h : isLD o) (ps : Array Value) : o ≠ .tbl ps := fun z => by rw [z] at h; exact h
section
variable {K : PySem.W.Frag} {g : Gh} {p : Addr} {o o' : HO}
def Gh.pset (g : Gh) (p : Addr) (o : HO) : Gh := { g with H := upd g.H p o }
theorem sqT_pset (hp : g.H p = some o') (ho : isLD o') {a : Addr} {vs : List V} (h : SqT K g.H a vs) : SqT K (g.pset p o).H a vs := by
  rcases h with (h | ⟨q, h⟩) | h
  · exact .inl (.inl (by show upd g.H p o a = _; rw [upd_ne (fun z => by rw [z, hp] at h; exact ho.tup _ (Option.some.inj h))]; exact h))
  · exact .inl (.inr ⟨q, by show upd g.H p o a = _; rw [upd_ne (fun z => by rw [z, hp] at h; exact ho.frz _ _ (Option.some.inj h))]; exact h⟩)
  · exact .inr h
mutual
theorem RD.pset (hM : g.M p) (hp : g.H p = some o') (ho : isLD o') : ∀ (d : D) (v : V), RD K g d v → RD K (g.pset p o) d v
  | .non, v, h => h
  | .bl b, v, h => h
  | .int i, v, h => h
  | .str s, v, h => h
  | .tup ds, v, h => by
    obtain ⟨a, vs, rfl, h1, h2⟩ := h
    exact ⟨a, vs, rfl, sqT_pset hp ho h1, RDs.pset hM hp ho ds vs h2⟩
  | .lst ds, v, h => by
    obtain ⟨a, vs, rfl, h1, hM', h2⟩ := h
    exact ⟨a, vs, rfl, by show upd g.H p o a = _; rw [upd_ne (fun z => hM' (by rw [z]; exact hM))]; exact h1, hM', RDs.pset hM hp ho ds vs h2⟩
  | .scr ns, v, h => by
    obtain ⟨a, rfl, h1⟩ := h
    exact ⟨a, rfl, h1.imp fun q h1 => by show upd g.H p o a = _; rw [upd_ne (fun z => by rw [z, hp] at h1; exact ho.frz _ _ (Option.some.inj h1))]; exact h1⟩
theorem RDs.pset (hM : g.M p) (hp : g.H p = some o') (ho : isLD o') : ∀ (ds : List D) (vs : List V), RDs K g ds vs → RDs K (g.pset p o) ds vs
  | [], vs, h => h
  | d :: ds, vs, h => by
    obtain ⟨v, vs', rfl, h1, h2⟩ := h
    exact ⟨v, vs', rfl, RD.pset hM hp ho d v h1, RDs.pset hM hp ho ds vs' h2⟩
end
theorem RW.pset (hM : g.M p) (hp : g.H p = some o') (ho : isLD o') {w : W} {v : V} (h : RW K g w v) : RW K (g.pset p o) w v := by
  cases w with
  | d x => exact RD.pset hM hp ho x v h
  | loc n => exact h
theorem RWs.pset (hM : g.M p) (hp : g.H p = some o') (ho : isLD o') : ∀ {ws : List W} {vs : List V}, RWs K g ws vs → RWs K (g.pset p o) ws vs
  | [], vs, h => h
  | w :: ws, vs, ⟨v, vs', e, h1, h2⟩ => ⟨v, vs', e, h1.pset hM hp ho, RWs.pset hM hp ho h2⟩
theorem RKs.pset {κ : Type} (hM : g.M p) (hp : g.H p = some o') (ho : isLD o') : ∀ {ws : List (κ × W)} {vs : List (κ × V)}, RKs K g ws vs → RKs K (g.pset p o) ws vs
  | [], vs, h => h
  | w :: ws, vs, ⟨v, vs', e, h1, h2⟩ => ⟨v, vs', e, h1.pset hM hp ho, RKs.pset hM hp ho h2⟩
theorem EnvR.pset (hM : g.M p) (hp : g.H p = some o') (ho : isLD o') {env : Env} {σ : L2.St} (h : EnvR K g env σ) : EnvR K (g.pset p o) env σ :=
  ⟨h.len, fun i w hi => let ⟨v, h1, h2⟩ := h.at_ i w hi; ⟨v, h1, h2.pset hM hp ho⟩⟩
end
theorem pset_ok {g0 g1 : Gh} {S : Sto} {p : Addr} {o o' : HO} (h0 : g0.H p = none) (e : Ext g0 g1) (R : Rl c g1 S) (hM : g1.M p) (hp : g1.H p = some o') (ho : isLD o') (hr : p ∉ g1.r) : Ext g0 (g1.pset p o) ∧ Rl c (g1.pset p o) S := by
  have st : ∀ b, g1.H b ≠ none → (g1.pset p o).H b ≠ none := fun b h => by
    show upd g1.H p o b ≠ none
    by_cases hb : b = p
    · rw [hb, upd_same]; exact fun z => nomatch z
    · rw [upd_ne hb]; exact h
  refine ⟨⟨e.pre, fun b u h hb ht => ?_, e.grow, e.old, e.fresh, fun b h => st b (e.st b h)⟩, R.len, R.nd, R.mem, fun n ce a h1 h2 => ?_, fun P hP => ?_, fun b h => st b (R.some_ b h)⟩
  · show upd g1.H p o b = some u
    rw [upd_ne (ne_of_none h h0)]
    exact e.keep b u h hb ht
  · have hc := R.cell n ce a h1 h2
    have ha : a ≠ p := fun z => hr (z ▸ List.mem_of_getElem? h2)
    have he : (g1.pset p o).H a = g1.H a := upd_ne ha
    cases ce with
    | lst ws => obtain ⟨vs, q1, q2⟩ := hc; exact ⟨vs, he.trans q1, q2.pset hM hp ho⟩
    | dct ws => obtain ⟨vs, q1, q2⟩ := hc; exact ⟨vs, he.trans q1, q2.pset hM hp ho⟩
    | ins cl ws => obtain ⟨C, dx, vs, q0, q1, q2⟩ := hc; exact ⟨C, dx, vs, q0, he.trans q1, q2.pset hM hp ho⟩
  · obtain ⟨ps, h1, h2⟩ := R.tab P hP
    refine ⟨ps, ?_, h2⟩
    show upd g1.H p o P = _
    rw [upd_ne (fun z => by rw [z, hp] at h1; exact ho.tbl _ (Option.some.inj h1))]
    exact h1
/-- more cells, the same heap -/
theorem RW.more {K : PySem.W.Frag} {g : Gh} {q : List Addr} {w : W} {v : V} (h : RW K g w v) : RW K { g with r := g.r ++ q } w v := by
  cases w with
  | d x => exact RD.weak (g := g) (g2 := { g with r := g.r ++ q }) (fun _ z => z) rfl x v h
  | loc n => obtain ⟨a, h1, rfl⟩ := h; exact ⟨a, by show (g.r ++ q)[n]? = _; rw [List.getElem?_append_left (List.getElem?_eq_some_iff.mp h1).1]; exact h1, rfl⟩
theorem RWs.more {K : PySem.W.Frag} {g : Gh} {q : List Addr} : ∀ {ws : List W} {vs : List V}, RWs K g ws vs → RWs K { g with r := g.r ++ q } ws vs
  | [], vs, h => h
  | w :: ws, vs, ⟨v, vs', e, h1, h2⟩ => ⟨v, vs', e, h1.more, RWs.more h2⟩
theorem RKs.more {κ : Type} {K : PySem.W.Frag} {g : Gh} {q : List Addr} : ∀ {ws : List (κ × W)} {vs : List (κ × V)}, RKs K g ws vs → RKs K { g with r := g.r ++ q } ws vs
  | [], vs, h => h
  | w :: ws, vs, ⟨v, vs', e, h1, h2⟩ => ⟨v, vs', e, h1.more, RKs.more h2⟩
theorem CellR.more {g : Gh} {q : List Addr} {a : Addr} {ce : Cell} (h : CellR c g a ce) : CellR c { g with r := g.r ++ q } a ce := by
  cases ce with
  | lst ws => obtain ⟨vs, q1, q2⟩ := h; exact ⟨vs, q1, q2.more⟩
  | dct ws => obtain ⟨vs, q1, q2⟩ := h; exact ⟨vs, q1, q2.more⟩
  | ins cl ws => obtain ⟨C, dx, vs, q0, q1, q2⟩ := h; exact ⟨C, dx, vs, q0, q1, q2.more⟩
/-- a pending object becomes a cell -/
theorem pcell_ok {g0 g1 : Gh} {S : Sto} {p : Addr} {ce : Cell} (h0 : g0.H p = none) (e : Ext g0 g1) (R : Rl c g1 S) (hM : g1.M p) (hr : p ∉ g1.r) (hc : CellR c g1 p ce) :
    Ext g0 { g1 with r := g1.r ++ [p] } ∧ Rl c { g1 with r := g1.r ++ [p] } (S ++ [ce]) := by
  refine ⟨⟨fun n a h => ?_, e.keep, e.grow, e.old, fun n a h hn => ?_, e.st⟩, ?_, ?_, fun b hb => ?_, fun n ce' a h1 h2 => ?_, R.tab, R.some_⟩
  · have h1 := e.pre n a h
    show (g1.r ++ [p])[n]? = _
    rw [List.getElem?_append_left (List.getElem?_eq_some_iff.mp h1).1]; exact h1
  · have h1 : (g1.r ++ [p])[n]? = some a := h
    by_cases hl : n < g1.r.length
    · rw [List.getElem?_append_left hl] at h1; exact e.fresh n a h1 hn
    · rw [List.getElem?_append_right (by omega)] at h1
      have h2 : a ∈ [p] := List.mem_of_getElem? h1
      rw [List.mem_singleton.mp h2]; exact h0
  · show (g1.r ++ [p]).length = _
    rw [List.length_append, List.length_append, R.len]; rfl
  · show (g1.r ++ [p]).Nodup
    rw [List.nodup_append]
    exact ⟨R.nd, by simp, fun x hx y hy => by rw [List.mem_singleton.mp hy]; exact fun z => hr (z ▸ hx)⟩
  · have h1 : b ∈ g1.r ++ [p] := hb
    rcases List.mem_append.mp h1 with h2 | h2
    · exact R.mem b h2
    · rw [List.mem_singleton.mp h2]; exact hM
  · have h3 : (g1.r ++ [p])[n]? = some a := h2
    by_cases hn : n < S.length
    · rw [List.getElem?_append_left hn] at h1
      rw [List.getElem?_append_left (by rw [R.len]; exact hn)] at h3
      exact (R.cell n ce' a h1 h3).more
    · rw [List.getElem?_append_right (by omega)] at h1
      rw [List.getElem?_append_right (by rw [R.len]; omega)] at h3
      have q1 : ce' ∈ [ce] := List.mem_of_getElem? h1
      have q2 : a ∈ [p] := List.mem_of_getElem? h3
      rw [List.mem_singleton.mp q1, List.mem_singleton.mp q2]; exact hc.more
theorem RW.weakM {K : PySem.W.Frag} {g : Gh} {M' : Addr → Prop} (hm : ∀ b, M' b → g.M b) {w : W} {v : V} (h : RW K g w v) : RW K { g with M := M' } w v := by
  cases w with
  | d x => exact RD.weak (g := g) (g2 := { g with M := M' }) hm rfl x v h
  | loc n => exact h
theorem RWs.weakM {K : PySem.W.Frag} {g : Gh} {M' : Addr → Prop} (hm : ∀ b, M' b → g.M b) : ∀ {ws : List W} {vs : List V}, RWs K g ws vs → RWs K { g with M := M' } ws vs
  | [], vs, h => h
  | w :: ws, vs, ⟨v, vs', e, h1, h2⟩ => ⟨v, vs', e, h1.weakM hm, RWs.weakM hm h2⟩
theorem RKs.weakM {κ : Type} {K : PySem.W.Frag} {g : Gh} {M' : Addr → Prop} (hm : ∀ b, M' b → g.M b) : ∀ {ws : List (κ × W)} {vs : List (κ × V)}, RKs K g ws vs → RKs K { g with M := M' } ws vs
  | [], vs, h => h
  | w :: ws, vs, ⟨v, vs', e, h1, h2⟩ => ⟨v, vs', e, h1.weakM hm, RKs.weakM hm h2⟩
theorem CellR.weakM {g : Gh} {M' : Addr → Prop} (hm : ∀ b, M' b → g.M b) {a : Addr} {ce : Cell} (h : CellR c g a ce) : CellR c { g with M := M' } a ce := by
  cases ce with
  | lst ws => obtain ⟨vs, q1, q2⟩ := h; exact ⟨vs, q1, q2.weakM hm⟩
  | dct ws => obtain ⟨vs, q1, q2⟩ := h; exact ⟨vs, q1, q2.weakM hm⟩
  | ins cl ws => obtain ⟨C, dx, vs, q0, q1, q2⟩ := h; exact ⟨C, dx, vs, q0, q1, q2.weakM hm⟩
/-- a pending object becomes data -/
theorem pdata_ok {g0 g1 : Gh} {S : Sto} {p : Addr} (h0 : g0.H p = none) (R0 : ∀ a, g0.M a → g0.H a ≠ none) (e : Ext g0 g1) (R : Rl c g1 S) (hr : p ∉ g1.r) :
    Ext g0 { g1 with M := fun b => g1.M b ∧ b ≠ p } ∧ Rl c { g1 with M := fun b => g1.M b ∧ b ≠ p } S := by
  refine ⟨⟨e.pre, e.keep, fun b h => e.grow b h.1, fun b h => ⟨e.old b h, fun z => R0 b h (by rw [z]; exact h0)⟩, e.fresh, e.st⟩, R.len, R.nd, fun b hb => ⟨R.mem b hb, fun z => hr (z ▸ hb)⟩, fun n ce a h1 h2 => ?_, R.tab, fun b h => R.some_ b h.1⟩
  exact (R.cell n ce a h1 h2).weakM (fun _ z => z.1)

theorem kvs_merge {kvs : List (Key × V)} (h : (kvs.map (·.1)).Nodup) : mergeK [] kvs = kvs := by
  have gen : ∀ (more acc : List (Key × V)), ((acc ++ more).map (·.1)).Nodup → mergeK acc more = acc ++ more := by
    intro more
    induction more with
    | nil => intro acc _; rw [List.append_nil]; rfl
    | cons kv r ih =>
      intro acc hn
      have hk : (acc.any fun q => decide (q.1 = kv.1)) = false := by
        rw [List.any_eq_false]
        intro q hq
        rw [decide_eq_true_eq]
        intro z
        rw [List.map_append, List.nodup_append] at hn
        exact hn.2.2 q.1 (List.mem_map_of_mem hq) kv.1 (by rw [List.map_cons]; exact List.mem_cons_self) z
      show mergeK (L2.putK acc kv.1 kv.2) r = _
      have e : L2.putK acc kv.1 kv.2 = acc ++ [kv] := by
        unfold L2.putK; rw [if_neg (by rw [hk]; decide)]
      rw [e, ih (acc ++ [kv]) (by rw [List.append_assoc]; exact hn), List.append_assoc]; rfl
  exact gen kvs [] (by simpa using h)
theorem zip_rks {K : PySem.W.Frag} {g : Gh} : ∀ {ks : List Key} {ws : List W} {vs : List V}, RWs K g ws vs → RKs K g (ks.zip ws) (ks.zip vs)
  | [], ws, vs, _ => by simp [RKs]
  | k :: ks, [], vs, h => by rw [show vs = [] from h]; rfl
  | k :: ks, w :: ws, vs, ⟨v, vs', e, h1, h2⟩ => by rw [e]; exact ⟨v, _, rfl, h1, zip_rks h2⟩
theorem zip_keys {ks : List Key} {vs : List V} (h : ks.length = vs.length) : (ks.zip vs).map (·.1) = ks := by
  induction ks generalizing vs with
  | nil => rfl
  | cons k ks ih => cases vs with
    | nil => cases h
    | cons v vs => simp [ih (by simpa using h)]
theorem se_dct {keys : List (Option Expr)} {es : List Expr} {ks : List Key} {ces : List E} {pos : Pos} (hk : keysE keys = some ks) (hl : keys.length = es.length) (h0 : keys ≠ []) (h15 : keys.length ≤ 15) (h : SEz c cl X Wx es ces) :
    SE c cl X Wx (.Dict keys es pos) (.dct ks ces) := fun g S σ env Q R ev p => by
  obtain ⟨ha, hkl⟩ := keysE_all hk
  refine we_of (pe_disp (trs_pps hk hl) ha hl h0 h15) ?_
  intro p0 hp0
  obtain ⟨e0, R0⟩ := pend_ok (o := .dK []) R hp0
  have ev0 := ev.mono R e0
  simp only [evE] at p
  have hr0 : p0 ∉ g.r := fun z => R.some_ _ (R.mem _ z) hp0
  have q := pairs_ok ((PostW c Wx σ Q).at g) (by rw [← hkl]; exact hl) h R0 ev0 (show ((PostW c Wx σ Q).at g).p (g.pend p0 (.dK [])) ((evEs cl ces env S).bind _) from ⟨p, e0⟩)
  refine pairs_mono (fun ps H' hq => ?_) q
  obtain ⟨g1, S1, ws, vs, rfl, e1, R1, rw1, hwl, rfl, p1, eg⟩ := hq
  obtain ⟨⟨c1, c2, c3⟩, p1⟩ := PP.ite _ p1
  have hH : g1.H p0 = some (.dK []) := e1.keep p0 (.dK []) (by show upd g.H p0 _ p0 = _; exact upd_same) hr0 (fun _ z => nomatch z)
  have hM : g1.M p0 := e1.old p0 (.inr rfl)
  have hr1 : p0 ∉ g1.r := fun z => by
    rcases e1.mem z with z | z
    · exact hr0 z
    · have z' : upd g.H p0 (.dK []) p0 = none := z
      rw [upd_same] at z'; cases z'
  have hvl : ks.length = vs.length := by rw [← rw1.length]; exact c1
  refine ⟨hH, ks.zip vs, rfl, ?_, ?_⟩
  · rw [List.length_zip, ← hvl, Nat.min_self]; exact c2
  · rw [kvs_merge (by rw [zip_keys hvl]; exact c3)]
    obtain ⟨e2, R2⟩ := pset_ok (o := .dK (ks.zip vs)) hp0 eg R1 hM hH True.intro hr1
    have hc : CellR c (g1.pset p0 (.dK (ks.zip vs))) p0 (.dct (ks.zip ws)) := ⟨ks.zip vs, upd_same, zip_rks (rw1.pset hM hH True.intro)⟩
    obtain ⟨e3, R3⟩ := pcell_ok hp0 e2 R2 hM hr1 hc
    refine p1 (.ref p0) _ e3 R3 ⟨p0, ?_, rfl⟩
    show (g1.r ++ [p0])[S1.length]? = some p0
    rw [← R1.len, List.getElem?_append_right (Nat.le_refl _), Nat.sub_self]; rfl
theorem se_dct0 {pos : Pos} : SE c cl X Wx (.Dict [] [] pos) (.dct [] []) := fun g S σ env Q R ev p => by
  refine we_of pe_dnewK ?_
  intro p0 hp0
  simp only [evE, evEs] at p
  have p' : (PostW c Wx σ Q).p g (.ok (.loc S.length) (S ++ [.dct []])) := by
    have e : (([] : List Key).length = ([] : List W).length ∧ ([] : List Key).length ≤ 15 ∧ ([] : List Key).Nodup) := ⟨rfl, by decide, List.nodup_nil⟩
    simpa [Pc.R.bind] using p
  have e := ext_cell (o := .dK []) R hp0
  have R' : Rl c (g.cell p0 (.dK [])) (S ++ [.dct []]) := rl_cell R hp0 ⟨[], upd_same, rfl⟩
  refine p' (.ref p0) (g.cell p0 (.dK [])) e R' ⟨p0, ?_, rfl⟩
  show (g.r ++ [p0])[S.length]? = some p0
  rw [← R.len, List.getElem?_append_right (Nat.le_refl _), Nat.sub_self]; rfl
end
end Pc
set_option Elab.async false
set_option linter.all false
set_option maxRecDepth 100000
set_option autoImplicit false
set_option maxHeartbeats 1000000
/-! PcS8: targets, what is walked, list comprehensions -/
namespace Pc
open PySem PySem.Spec PyProof.Rows L2

def WG (X : Cx) (tg : Expr) : TG := fun v σ H Q => ∀ pins s u, Inv X pins σ H s → RelV v u → wpAny (model X.prog X.w) X.A (assign tg X.env u) (fun _ s' => ∃ σ' H', Inv X pins σ' H' s' ∧ Q σ' H') X.xe s
theorem pg_wg (X : Cx) (tg : Expr) : PG X tg (WG X tg) := ⟨fun pins s σ H v u Q I r h => h pins s u I r⟩
theorem wg_of {X : Cx} {tg : Expr} {t : TG} (h : PG X tg t) {v : V} {σ : L2.St} {H : Hp} {Q : L2.St → Hp → Prop} (q : t v σ H Q) : WG X tg v σ H Q := fun pins s u I r => h.run pins s σ H v u Q I r q
def tgs : Tg → List Nat
  | .nm i => [i]
  | .tup is => is
/-- a target of names -/
def TgOk (c : Cfg) (X : Cx) (tg : Expr) (t : Tg) : Prop := ∀ (g : Gh) (S : Sto) (σ : L2.St) (env env' : Env) (w : W) (v : V) (Q : L2.St → Hp → Prop), Rl c g S → EnvR c.K g env σ → RW c.K g w v → bindT t w env S = some env' →
  (∀ σ', EnvR c.K g env' σ' → (∀ j, j ∉ tgs t → σ'[j]? = σ[j]?) → σ'.length = σ.length → Q σ' g.H) → WG X tg v σ g.H Q
/-- a name that may be stored -/
structure StoN (X : Cx) (x : Str) (i : Nat) : Prop where
  nd : X.N.Nodup
  at_ : X.N[i]? = some x
  loc : Loc X.env.scope x
  fn : X.fn x = true ∨ X.env.scope.names.lookup x = some .local
theorem EnvR.set {K : PySem.W.Frag} {g : Gh} {env : Env} {σ : L2.St} (h : EnvR K g env σ) (i : Nat) {w : W} {v : V} (r : RW K g w v) : EnvR K g (env.set i (some w)) (σ.set i (some v)) := by
  refine ⟨by rw [List.length_set, List.length_set, h.len], fun j w' hj => ?_⟩
  by_cases e : i = j
  · subst e
    have hl := (List.getElem?_eq_some_iff.mp hj).1
    rw [List.length_set] at hl
    rw [List.getElem?_set_self hl] at hj
    rw [List.getElem?_set_self (by rw [← h.len]; exact hl)]
    cases hj
    exact ⟨v, rfl, r⟩
  · rw [List.getElem?_set_ne e] at hj
    rw [List.getElem?_set_ne e]
    exact h.at_ j w' hj
section
variable {c : Cfg} {cl : Call} {X : Cx} {Wx : WX}
theorem tg_nm {x : Str} {pos : Pos} {i : Nat} (h : StoN X x i) : TgOk c X (.Name x pos) (.nm i) := fun g S σ env env' w v Q R ev r hb q => by
  cases hb
  refine wg_of (pg_name h.nd h.at_ h.loc h.fn) ?_
  refine q _ (ev.set i r) (fun j hj => ?_) (List.length_set ..)
  rw [List.getElem?_set_ne (fun z => hj (by rw [z]; exact List.mem_singleton.mpr rfl))]
def gsOf : List Nat → TGs
  | [] => gNil
  | i :: is => gCons (gName i) (gsOf is)
/-- names, each with its slot -/
inductive StoNs (X : Cx) : List Expr → List Nat → Prop
  | nil : StoNs X [] []
  | cons {x : Str} {pos : Pos} {i : Nat} {es : List Expr} {is : List Nat} : StoN X x i → StoNs X es is → StoNs X (.Name x pos :: es) (i :: is)
theorem pgs_of {es : List Expr} {is : List Nat} (h : StoNs X es is) : PGs X es (gsOf is) := by
  induction h with
  | nil => exact pgs_nil
  | cons h1 _ ih => exact pgs_cons (pg_name h1.nd h1.at_ h1.loc h1.fn) ih rfl
theorem stoNs_len {es : List Expr} {is : List Nat} (h : StoNs X es is) : (assignEach es X.env).length = is.length ∧ (assignEach es X.env).findIdx? (·.1) = none := by
  induction h with
  | nil => exact ⟨rfl, rfl⟩
  | cons h1 _ ih =>
    refine ⟨?_, ?_⟩
    · show (assignEach _ X.env).length + 1 = _ ; rw [ih.1]; rfl
    · show List.findIdx? _ ((false, _) :: assignEach _ X.env) = none
      rw [List.findIdx?_cons]; simp [ih.2]
theorem gs_ok {g : Gh} {Q : L2.St → Hp → Prop} : ∀ {is : List Nat} {ws : List W} {vs : List V} {env env' : Env} {σ : L2.St}, EnvR c.K g env σ → RWs c.K g ws vs → setN env is ws = some env' →
    (∀ σ', EnvR c.K g env' σ' → (∀ j, j ∉ is → σ'[j]? = σ[j]?) → σ'.length = σ.length → Q σ' g.H) → gsOf is vs σ g.H Q
  | [], [], vs, env, env', σ, ev, r, h, q => by cases h; exact ⟨r, q σ ev (fun _ _ => rfl) rfl⟩
  | [], _ :: _, vs, env, env', σ, ev, r, h, q => by cases h
  | _ :: _, [], vs, env, env', σ, ev, r, h, q => by cases h
  | i :: is, w :: ws, vs, env, env', σ, ev, ⟨v, vs', e, r1, r2⟩, h, q => by
    refine ⟨v, vs', e, ?_⟩
    show gsOf is vs' (σ.set i (some v)) g.H Q
    refine gs_ok (ev.set i r1) r2 h fun σ' ev' h1 h2 => q σ' ev' (fun j hj => ?_) (by rw [h2, List.length_set])
    rw [h1 j (fun z => hj (List.mem_cons_of_mem _ z)), List.getElem?_set_ne (fun z => hj (by rw [z]; exact List.mem_cons_self))]
theorem tg_tup {es : List Expr} {is : List Nat} {k : Nat} {pos : Pos} (hc : X.calm = true) (hK : X.K = c.K) (h : StoNs X es is) : TgOk c X (.Tuple es k pos) (.tup is) := fun g S σ env env' w v Q R ev r hb q => by
  obtain ⟨h1, h2⟩ := stoNs_len h
  refine wg_of (pg_tup hc (pgs_of h) h1 h2) ?_
  simp only [bindT] at hb
  split at hb
  · rename_i xs
    obtain ⟨a, vs, rfl, k1, k2⟩ := r
    refine ⟨a, vs, rfl, hK ▸ k1, ?_, gs_ok ev (RWs.ofD k2) hb q⟩
    rw [← k2.length]
    have len : ∀ (is : List Nat) (ws : List W) (env env' : Env), setN env is ws = some env' → ws.length = is.length := by
      intro is
      induction is with
      | nil => intro ws env env' h; cases ws with
        | nil => rfl
        | cons _ _ => cases h
      | cons i is ih => intro ws env env' h; cases ws with
        | nil => cases h
        | cons w ws => simp [ih ws _ _ h]
    have := len is _ _ _ hb
    rw [List.length_map] at this
    exact this
  · cases hb

/-! ### what is walked -/
/-- the iterator hands out the items -/
structure IsIt (c : Cfg) (k : Ik) (src : List W) (items : List W) (J : It) (g0 : Gh) : Prop where
  go : ∀ (i : Nat) w g' S', Ext g0 g' → Rl c g' S' → items[i]? = some w → still k src items S' → J.go i g'.H ∧ ∀ x H', J.yld i g'.H x H' → H' = g'.H ∧ RW c.K g' w x
  stop : ∀ (i : Nat) g' S', Ext g0 g' → Rl c g' S' → items.length ≤ i → still k src items S' → J.stop i g'.H
def WI (X : Cx) (tg iter : Expr) : TI := fun σ H R => ∀ pins s, Inv X pins σ H s → wpAny (model X.prog X.w) X.A (eval iter X.env) (fun v s1 => wpAny (model X.prog X.w) X.A (pyIter v) (PIE X pins σ tg R) X.xe s1) X.xe s
theorem pi_wi (X : Cx) (tg iter : Expr) : PI X tg iter (WI X tg iter) := ⟨fun pins s σ H R I h => h pins s I⟩
/-- by values -/
def ItR (X : Cx) (tg : Expr) (r : V → Hp → (It → Hp → Prop) → Prop) : Prop := ∀ (pins : List (Addr × Obj)) (s : Shared) (σ : L2.St) (H : Hp) (x : V) (v : Value) (R : It → Hp → Prop), Inv X pins σ H s → RelV x v → r x H R →
  wpAny (model X.prog X.w) X.A (pyIter v) (PIE X pins σ tg R) X.xe s
theorem it_list (tg : Expr) : ItR X tg (fun x H R => ∃ a xs, x = .ref a ∧ SqL X.K H a xs ∧ R (Itl X.K a) H) := by
  intro pins s1 σ H1 x v R I1 r1 ⟨a, xs, e, hq, q⟩
  subst e
  cases r1
  obtain ⟨its, rv, p, hz⟩ := I1.list hq
  refine wpAny_pyIter_list p.isList ?_
  refine ⟨s1.heap.objs.size, [s1.heap.objs.size], _, _, H1, rfl, I1.kept (t' := s1.toks) fun b o e => Heap.get?_push_of_some _ e, turn_list a _, ⟨_, Heap.get?_push_size _ rfl, rfl, rfl⟩, fun b hb => ?_, q⟩
  have e : b = s1.heap.objs.size := by simpa using hb
  subst e
  exact I1.fpOk (Nat.le_refl _) (I1.hok.fresh (Nat.le_refl _))
theorem it_tup (tg : Expr) : ItR X tg (fun x H R => ∃ a xs, x = .ref a ∧ SqT X.K H a xs ∧ R (Itt X.K a) H) := by
  intro pins s1 σ H1 x v R I1 r1 ⟨a, xs, e, hq, q⟩
  subst e
  cases r1
  obtain ⟨its, rv, p, hz⟩ := I1.tuple hq
  refine wpAny_pyIter_tuple (show s1.heap.IsTuple a its.toArray from p) ?_
  refine ⟨s1.heap.objs.size, [s1.heap.objs.size], _, _, H1, rfl, I1.kept (t' := s1.toks) fun b o e => Heap.get?_push_of_some _ e, turn_tuple a _, ⟨_, Heap.get?_push_size _ rfl, rfl, rfl⟩, fun b hb => ?_, q⟩
  have e : b = s1.heap.objs.size := by simpa using hb
  subst e
  exact I1.fpOk (Nat.le_refl _) (I1.hok.fresh (Nat.le_refl _))
theorem it_str (tg : Expr) : ItR X tg (fun y H R => ∃ x, y = .str x ∧ R (Its x) H) := by
  intro pins s1 σ H1 y v R I1 r1 ⟨x, ex, q⟩
  subst ex
  obtain ⟨t, rfl⟩ := r1
  cases ha : x.cps.all (· < 128)
  · exact wpAny_pyIter_wide ha (pi_one (tk := s1.toks) I1 _ (turn_str _ x t "str_iterator" (.inr rfl)) ⟨_, Heap.get?_push_size _ rfl, rfl, rfl⟩ q)
  · exact wpAny_pyIter_ascii ha (pi_one (tk := s1.toks) I1 _ (turn_str _ x t "str_ascii_iterator" (.inl rfl)) ⟨_, Heap.get?_push_size _ rfl, rfl, rfl⟩ q)
/-- the list stands -/
theorem isIt_seq {w : W} {v : V} {items : List W} {g : Gh} {S : Sto} (R : Rl c g S) (r : RW c.K g w v) (h : seqOf S w = some items) (hK : X.K = c.K) :
    ∃ a, v = .ref a ∧ ((∃ xs, SqL X.K g.H a xs ∧ IsIt c .seq [w] items (Itl X.K a) g) ∨ ∃ xs, SqT X.K g.H a xs ∧ IsIt c .seq [w] items (Itt X.K a) g) ∧ still .seq [w] items S := by
  have mkL : ∀ (a : Addr), (∀ g' S', Ext g g' → Rl c g' S' → still .seq [w] items S' → ∃ xs, SqL c.K g'.H a xs ∧ RWs c.K g' items xs) → IsIt c .seq [w] items (Itl X.K a) g := by
    intro a ha
    rw [hK]
    refine ⟨fun i w' g' S' e R' hi hs => ?_, fun i g' S' e R' hi hs => ?_⟩
    · obtain ⟨xs, h1, h2⟩ := ha g' S' e R' hs
      obtain ⟨v', h3, h4⟩ := h2.get hi
      exact ⟨⟨xs, v', h1, h3⟩, fun x H' ⟨e1, e2⟩ => ⟨e1, by have := e2 xs h1; rw [h3] at this; rw [← Option.some.inj this]; exact h4⟩⟩
    · obtain ⟨xs, h1, h2⟩ := ha g' S' e R' hs
      exact ⟨xs, h1, by rw [← h2.length]; exact hi⟩
  have mkT : ∀ (a : Addr), (∀ g' S', Ext g g' → Rl c g' S' → ∃ xs, SqT c.K g'.H a xs ∧ RWs c.K g' items xs) → IsIt c .seq [w] items (Itt X.K a) g := by
    intro a ha
    rw [hK]
    refine ⟨fun i w' g' S' e R' hi hs => ?_, fun i g' S' e R' hi hs => ?_⟩
    · obtain ⟨xs, h1, h2⟩ := ha g' S' e R'
      obtain ⟨v', h3, h4⟩ := h2.get hi
      exact ⟨⟨xs, v', h1, h3⟩, fun x H' ⟨e1, e2⟩ => ⟨e1, by have := e2 xs h1; rw [h3] at this; rw [← Option.some.inj this]; exact h4⟩⟩
    · obtain ⟨xs, h1, h2⟩ := ha g' S' e R'
      exact ⟨xs, h1, by rw [← h2.length]; exact hi⟩
  cases w with
  | d x =>
    cases x <;> simp only [seqOf] at h <;> first | (cases h; done) | cases h
    · obtain ⟨a, vs, rfl, h1, h2⟩ := r
      exact ⟨a, rfl, .inr ⟨vs, hK ▸ h1, mkT a fun g' S' e R' => ⟨vs, R.sqT e h1, RWs.ofD (RDs.mono R e _ _ h2)⟩⟩, True.intro⟩
    · obtain ⟨a, vs, rfl, h1, hM, h2⟩ := r
      exact ⟨a, rfl, .inl ⟨vs, .inl (.inl h1), mkL a fun g' S' e R' _ => ⟨vs, .inl (.inl (R.lstM e h1 hM (fun _ z => nomatch z)).1), RWs.ofD (RDs.mono R e _ _ h2)⟩⟩, True.intro⟩
    · rename_i ns
      have r' : RD c.K g (.scr ns) v := r
      obtain ⟨a, rfl, h1⟩ := r
      exact ⟨a, rfl, .inl ⟨_, hK ▸ h1.sq, mkL a fun g' S' e R' _ => by
        obtain ⟨a', q1, q2⟩ := RD.mono R e _ _ r'
        cases q1
        exact ⟨_, q2.sq, RWs.ints⟩⟩, True.intro⟩
  | loc n =>
    simp only [seqOf] at h
    split at h
    · rename_i ws' hs
      cases h
      obtain ⟨a, rfl, hn, vs, h1, h2⟩ := cell_of R r hs
      exact ⟨a, rfl, .inl ⟨vs, .inl (.inl h1), mkL a fun g' S' e R' hs' => by
        obtain ⟨a', q1, _, vs', q2, q3⟩ := cell_of R' (r.mono R e) hs'
        cases q1
        exact ⟨vs', .inl (.inl q2), q3⟩⟩, hs⟩
    · cases h
theorem isIt_str {x : Str} {g : Gh} : IsIt c .seq [.d (.str x)] (x.cps.toList.map fun ch => .d (.str ⟨#[ch]⟩)) (Its x) g := by
  refine ⟨fun i w g' S' e R' hi _ => ?_, fun i g' S' e R' hi _ => ?_⟩
  · rw [List.getElem?_map] at hi
    cases h : x.cps.toList[i]? with
    | none => rw [h] at hi; cases hi
    | some ch =>
      rw [h] at hi
      cases hi
      have hl := (List.getElem?_eq_some_iff.mp h).1
      refine ⟨by show i < x.cps.size; simpa using hl, fun y H' ⟨e1, ch', h1, h2⟩ => ⟨e1, ?_⟩⟩
      rw [Array.getElem?_toList] at h
      rw [h] at h1
      cases h1
      exact h2
  · show x.cps.size ≤ i
    rw [List.length_map] at hi
    simpa using hi
theorem isIt_rng {lo : Int} {n : Nat} {k : Ik} {src : List W} {g : Gh} : IsIt c k src ((List.range n).map fun (i : Nat) => .d (.int (lo + i))) (Itr lo n) g := by
  refine ⟨fun i w g' S' e R' hi _ => ?_, fun i g' S' e R' hi _ => ?_⟩
  · rw [List.getElem?_map] at hi
    cases h : (List.range n)[i]? with
    | none => rw [h] at hi; cases hi
    | some j =>
      rw [h] at hi
      cases hi
      obtain ⟨hl, e1⟩ := List.getElem?_eq_some_iff.mp h
      rw [List.getElem_range] at e1
      subst e1
      rw [List.length_range] at hl
      exact ⟨hl, fun y H' ⟨e1, h2⟩ => ⟨e1, h2⟩⟩
  · rw [List.length_map, List.length_range] at hi
    exact hi
/-- what stands when the walk begins -/
def MidI {β : Type} (c : Cfg) (Wx : WX) (σ : L2.St) (env : Env) (g : Gh) (P : PP c Wx σ β) (k : Ik) (f : List W → List W → Sto → R β) : It → Hp → Prop := fun J H1 => ∃ g1 S1 src items, H1 = g1.H ∧ Ext g g1 ∧ Rl c g1 S1 ∧ EnvR c.K g1 env σ ∧ IsIt c k src items J g1 ∧ still k src items S1 ∧ P.p g1 (f src items S1)
theorem wi_seq {β : Type} {tg e : Expr} {ce : E} (hK : X.K = c.K) (h : SE c cl X Wx e ce) {g : Gh} {S : Sto} {σ : L2.St} {env : Env} (P : PP c Wx σ β) {f : List W → List W → Sto → R β} (R : Rl c g S) (ev : EnvR c.K g env σ)
    (p : P.p g ((evEs cl [ce] env S).bind fun src S => (ofO (itW .seq src S) S).bind fun items S => f src items S)) : WI X tg e σ g.H (MidI c Wx σ env g P .seq f) := by
  simp only [evEs, bind_asc] at p
  intro pins s I
  refine thn (h.mid P R ev p pins s I) fun v s1 ⟨x, H1, I1, rv, q⟩ => ?_
  obtain ⟨g1, S1, w, rfl, e1, R1, ev1, rw1, p1⟩ := q
  have p1 : P.p g1 ((ofO (itW .seq [w] S1) S1).bind fun items S => f [w] items S) := p1
  obtain ⟨items, hi, p1⟩ := PP.ofO _ p1
  have fin : (∃ s, w = .d (.str s)) ∨ seqOf S1 w = some items := by
    cases w with
    | loc n => exact .inr hi
    | d y => cases y <;> first | exact .inl ⟨_, rfl⟩ | exact .inr hi
  rcases fin with ⟨st, rfl⟩ | hseq
  · have e2 : items = st.cps.toList.map fun ch => .d (.str ⟨#[ch]⟩) := by simpa [itW] using hi.symm
    subst e2
    cases rw1
    exact it_str tg pins s1 σ g1.H _ v _ I1 rv ⟨st, rfl, g1, S1, _, _, rfl, e1, R1, ev1, isIt_str, True.intro, p1⟩
  · obtain ⟨a, rfl, h2, hs⟩ := isIt_seq R1 rw1 hseq hK
    rcases h2 with ⟨xs, q1, q2⟩ | ⟨xs, q1, q2⟩
    · exact it_list tg pins s1 σ g1.H _ v _ I1 rv ⟨a, xs, rfl, q1, g1, S1, _, _, rfl, e1, R1, ev1, q2, hs, p1⟩
    · exact it_tup tg pins s1 σ g1.H _ v _ I1 rv ⟨a, xs, rfl, q1, g1, S1, _, _, rfl, e1, R1, ev1, q2, hs, p1⟩
theorem itW_rng1 {ws items : List W} {S : Sto} (h : itW .rng1 ws S = some items) : ∃ n : Int, ws = [.d (.int n)] ∧ -(2 ^ 60) < n ∧ n < 2 ^ 60 ∧ items = (List.range n.toNat).map fun (i : Nat) => .d (.int i) := by
  unfold itW at h
  split at h <;> first | contradiction | skip
  · split at h
    · rename_i hq
      cases h
      exact ⟨_, rfl, hq.1, hq.2, rfl⟩
    · cases h
theorem itW_rng2 {ws items : List W} {S : Sto} (h : itW .rng2 ws S = some items) : ∃ a b : Int, ws = [.d (.int a), .d (.int b)] ∧ (-(2 ^ 60) < a ∧ a < 2 ^ 60 ∧ -(2 ^ 60) < b ∧ b < 2 ^ 60) ∧ items = (List.range (b - a).toNat).map fun (i : Nat) => .d (.int (a + i)) := by
  unfold itW at h
  split at h <;> first | contradiction | skip
  · split at h
    · rename_i hq
      cases h
      exact ⟨_, _, rfl, hq, rfl⟩
    · cases h
theorem wi_rng1 {β : Type} {tg a : Expr} {ca : E} {p1 p2 : Pos} (hg : Gl X "range") (hm : X.mg "range" = none) (ha : noStar a = true) (h : SEs c cl X Wx [a] [ca]) {g : Gh} {S : Sto} {σ : L2.St} {env : Env} (P : PP c Wx σ β) {f : List W → List W → Sto → R β} (R : Rl c g S) (ev : EnvR c.K g env σ)
    (p : P.p g ((evEs cl [ca] env S).bind fun src S => (ofO (itW .rng1 src S) S).bind fun items S => f src items S)) : WI X tg (.Call (.Name "range" p1) [a] [] p2) σ g.H (MidI c Wx σ env g P .rng1 f) := by
  intro pins s I
  refine (pi_range1 hg hm (pa_wa X [a]) (star_cons ha _ _)).run pins s σ g.H _ I ?_
  refine (h.mid P R ev p).mono ?_
  rintro vs _ ⟨g1, S1, ws, rfl, e1, R1, ev1, rx, q1⟩
  obtain ⟨items, hi, q1⟩ := PP.ofO _ q1
  obtain ⟨n, rfl, h1, h2, rfl⟩ := itW_rng1 hi
  obtain ⟨v, ev2, q⟩ := rws1 rx
  subst ev2
  cases q
  refine ⟨n, rfl, by omega, by omega, g1, S1, _, _, rfl, e1, R1, ev1, ?_, True.intro, q1⟩
  have := isIt_rng (c := c) (lo := 0) (n := n.toNat) (k := .rng1) (src := [.d (.int n)]) (g := g1)
  simpa using this
theorem wi_rng2 {β : Type} {tg a b : Expr} {ca cb : E} {p1 p2 : Pos} (hg : Gl X "range") (hm : X.mg "range" = none) (ha : noStar a = true) (hb : noStar b = true) (h : SEs c cl X Wx [a, b] [ca, cb]) {g : Gh} {S : Sto} {σ : L2.St} {env : Env} (P : PP c Wx σ β) {f : List W → List W → Sto → R β} (R : Rl c g S) (ev : EnvR c.K g env σ)
    (p : P.p g ((evEs cl [ca, cb] env S).bind fun src S => (ofO (itW .rng2 src S) S).bind fun items S => f src items S)) : WI X tg (.Call (.Name "range" p1) [a, b] [] p2) σ g.H (MidI c Wx σ env g P .rng2 f) := by
  intro pins s I
  refine (pi_range2 hg hm (pa_wa X [a, b]) (by rw [star_cons ha, star_cons hb]; rfl) (by rw [star_cons hb]; rfl)).run pins s σ g.H _ I ?_
  refine (h.mid P R ev p).mono ?_
  rintro vs _ ⟨g1, S1, ws, rfl, e1, R1, ev1, rx, q1⟩
  obtain ⟨items, hi, q1⟩ := PP.ofO _ q1
  obtain ⟨n, m, rfl, hq, rfl⟩ := itW_rng2 hi
  obtain ⟨v, v', ev2, q, q'⟩ := rws2 rx
  subst ev2
  cases q; cases q'
  exact ⟨n, m, rfl, ⟨by omega, by omega, by omega, by omega⟩, g1, S1, _, _, rfl, e1, R1, ev1, isIt_rng, True.intro, q1⟩
end
end Pc
set_option Elab.async false
set_option linter.all false
set_option maxRecDepth 100000
set_option autoImplicit false
set_option maxHeartbeats 1000000
/-! PcS9: list comprehensions -/
namespace Pc
open PySem PySem.Spec PyProof.Rows L2

/-- no exception is wished for -/
def Wx0 : WX := fun _ _ _ _ => False
theorem takes0' (X : Cx) : Takes X Wx0 := fun u s' ⟨_, _, _, _, _, _, _, _, _, _, _, _, _, _, _, _, w⟩ => w.elim
/-- what is walked, whatever follows -/
def SI (c : Cfg) (cl : Call) (X : Cx) (Wx : WX) (tg iter : Expr) (k : Ik) (is : List E) : Prop := ∀ (β : Type) (g : Gh) (S : Sto) (σ : L2.St) (env : Env) (P : PP c Wx σ β) (f : List W → List W → Sto → R β), Rl c g S → EnvR c.K g env σ →
  P.p g ((evEs cl is env S).bind fun src S => (ofO (itW k src S) S).bind fun items S => f src items S) → WI X tg iter σ g.H (MidI c Wx σ env g P k f)
def WTs (X : Cx) (ifs : List Expr) : TT := fun σ H Q => ∀ pins s, Inv X pins σ H s → wpAny (model X.prog X.w) X.A (forIn ifs true fun c r => if r = true then do let ok ← isTrue c X.env (eval c X.env); pure (ForInStep.yield ok) else pure (ForInStep.yield r)) (TP X pins σ Q) X.xe s
def STs (c : Cfg) (cl : Call) (X : Cx) (Wx : WX) (ifs : List Expr) (ces : List E) : Prop := ∀ (g : Gh) (S : Sto) (σ : L2.St) (env : Env) (Q : Bool → Hp → Prop), Rl c g S → EnvR c.K g env σ → (PostB c Wx σ Q).p g (evTs cl ces env S) → WTs X ifs σ g.H Q
section
variable {c : Cfg} {cl : Call} {X : Cx} {Wx : WX}
theorem sts_nil : STs c cl X Wx [] [] := fun g S σ env Q R ev p pins s I => (pts_nil (X := X)).run pins s σ g.H Q I (by simp only [evTs] at p; exact p true g (Ext.refl g) R rfl)
theorem sts_one {e : Expr} {ce : E} (h : ST c cl X Wx e ce) : STs c cl X Wx [e] [ce] := fun g S σ env Q R ev p pins s I => (pts_one (pt_wt X e)).run pins s σ g.H Q I (by
  refine h g S σ env Q R ev ?_
  have e1 : evTs cl [ce] env S = evT cl ce env S := by
    unfold evT
    simp only [evTs]
    congr 1
    funext x S
    cases h : truthW S x with
    | none => rfl
    | some k => cases k <;> rfl
  rw [← e1]; exact p)
theorem STs.mid {β : Type} {e : List Expr} {ce : List E} (h : STs c cl X Wx e ce) {g : Gh} {S : Sto} {σ : L2.St} {env : Env} (P : PP c Wx σ β) {f : Bool → Sto → R β} (R : Rl c g S) (ev : EnvR c.K g env σ) (p : P.p g ((evTs cl ce env S).bind f)) :
    WTs X e σ g.H (MidB c Wx σ env g P f) := by
  refine h g S σ env _ R ev ?_
  cases he : evTs cl ce env S with
  | ok w S1 => rw [he] at p; exact fun v g' e' R' r => ⟨g', S1, rfl, e', R', ev.mono R e', by rw [← show w = v from r]; exact P.mono e' p⟩
  | exc x S1 => rw [he] at p; exact P.exc p
  | err => rw [he] at p; exact P.err p
/-- within a comprehension: no exception -/
def PP.inner {σ : L2.St} {α β : Type} (P : PP c Wx σ β) (gb : Gh) (k : α → Sto → R β) (σ' : L2.St) : PP c Wx0 σ' α where
  p := fun g r => P.p gb ((noexc r).bind k) ∧ Ext gb g
  mono := fun e h => ⟨h.1, h.2.trans e⟩
  exc := fun h => (P.err h.1).elim
  err := fun h => P.err h.1
theorem wipe_at (σ : L2.St) : ∀ (vs : List Nat) (j : Nat), (wipe σ vs)[j]? = if j ∈ vs then (σ[j]?).map (fun _ => none) else σ[j]?
  | [], j => by simp [wipe]
  | v :: vs, j => by
    show ((wipe σ vs).set v none)[j]? = _
    have hl := wipe_length σ vs
    have ih := wipe_at σ vs j
    by_cases e : v = j
    · subst e
      rw [if_pos List.mem_cons_self]
      by_cases h : v < σ.length
      · rw [List.getElem?_set_self (by rw [hl]; exact h), List.getElem?_eq_getElem h]; rfl
      · rw [List.getElem?_eq_none (by rw [List.length_set, hl]; omega), List.getElem?_eq_none (by omega)]; rfl
    · rw [List.getElem?_set_ne e, ih]
      have e2 : (j ∈ v :: vs) ↔ (j ∈ vs) := by
        rw [List.mem_cons]
        exact ⟨fun z => z.elim (fun z => absurd z.symm e) id, .inr⟩
      by_cases h : j ∈ vs
      · rw [if_pos h, if_pos (e2.mpr h)]
      · rw [if_neg h, if_neg (fun z => h (e2.mp z))]
theorem wipe_same {σ σ' : L2.St} {vs is : List Nat} (h : ∀ j, j ∉ is → σ'[j]? = (wipe σ vs)[j]?) (hl : σ'.length = (wipe σ vs).length) (hs : ∀ i ∈ is, i ∈ vs) : wipe σ' vs = wipe σ vs := by
  apply List.ext_getElem?
  intro j
  rw [wipe_at, wipe_at]
  rw [wipe_length] at hl
  by_cases hj : j ∈ vs
  · rw [if_pos hj, if_pos hj]
    by_cases h2 : j < σ.length
    · rw [List.getElem?_eq_getElem h2, List.getElem?_eq_getElem (by omega)]; rfl
    · rw [List.getElem?_eq_none (by omega), List.getElem?_eq_none (by omega)]
  · rw [if_neg hj, if_neg hj, h j (fun z => hj (hs j z)), wipe_at, if_neg hj]
theorem wipeE_at (env : Env) : ∀ (vs : List Nat) (j : Nat), (wipeE env vs)[j]? = if j ∈ vs then (env[j]?).map (fun _ => none) else env[j]?
  | [], j => by simp [wipeE]
  | v :: vs, j => by
    show ((wipeE env vs).set v none)[j]? = _
    have hl : (wipeE env vs).length = env.length := by
      clear wipeE_at
      induction vs with
      | nil => rfl
      | cons a r ih => show ((wipeE env r).set a none).length = _; rw [List.length_set, ih]
    have ih := wipeE_at env vs j
    by_cases e : v = j
    · subst e
      rw [if_pos List.mem_cons_self]
      by_cases h : v < env.length
      · rw [List.getElem?_set_self (by rw [hl]; exact h), List.getElem?_eq_getElem h]; rfl
      · rw [List.getElem?_eq_none (by rw [List.length_set, hl]; omega), List.getElem?_eq_none (by omega)]; rfl
    · rw [List.getElem?_set_ne e, ih]
      have e2 : (j ∈ v :: vs) ↔ (j ∈ vs) := by
        rw [List.mem_cons]
        exact ⟨fun z => z.elim (fun z => absurd z.symm e) id, .inr⟩
      by_cases h : j ∈ vs
      · rw [if_pos h, if_pos (e2.mpr h)]
      · rw [if_neg h, if_neg (fun z => h (e2.mp z))]
theorem wipeE_len (env : Env) : ∀ vs : List Nat, (wipeE env vs).length = env.length
  | [] => rfl
  | v :: vs => by show ((wipeE env vs).set v none).length = _; rw [List.length_set, wipeE_len env vs]
theorem EnvR.wipe {K : PySem.W.Frag} {g : Gh} {env : Env} {σ : L2.St} (h : EnvR K g env σ) (vs : List Nat) : EnvR K g (wipeE env vs) (L2.wipe σ vs) := by
  refine ⟨by rw [wipeE_len, wipe_length, h.len], fun j w hj => ?_⟩
  rw [wipeE_at] at hj
  rw [wipe_at]
  by_cases e : j ∈ vs
  · rw [if_pos e] at hj
    cases q : env[j]? with
    | none => rw [q] at hj; cases hj
    | some o => rw [q] at hj; cases hj
  · rw [if_neg e] at hj ⊢
    exact h.at_ j w hj
theorem pend_not {g0 g1 : Gh} {p : Addr} {o : HO} (e : Ext g0 g1) (h : g0.H p = some o) (hr : p ∉ g0.r) : p ∉ g1.r := fun z => by
  rcases e.mem z with z | z
  · exact hr z
  · rw [h] at z; cases z
theorem se_lc {elt tg iter : Expr} {ifs : List Expr} {scope : Scope} {own : List (Str × Nat)} {pos : Pos} {m : Bool} {k : Ik} {is : List E} {t : Tg} {cc : List E} {ce : E} (hc : X.calm = true) (hN : X.N.Nodup) (hi : SI c cl X Wx tg iter k is)
    (ok : BlkOk X.N X.env.scope scope own) (hg : ∀ s H C cl' fp, TgOk c (X.blk s H scope (compEnvC scope cl' C X.env) fp) tg t) (ht : ∀ s H C cl' fp, STs c cl (X.blk s H scope (compEnvC scope cl' C X.env) fp) Wx0 ifs cc)
    (he : ∀ s H C cl' fp, SE c cl (X.blk s H scope (compEnvC scope cl' C X.env) fp) Wx0 elt ce) (hsub : ∀ i ∈ tgs t, i ∈ own.map (·.2)) (hs : ∀ x, foldedSetIterable iter X.env x = pure x) :
    SE c cl X Wx (.ListComp elt [⟨tg, iter, ifs, 0⟩] scope pos) (.lc m t k is cc ce (own.map (·.2))) := fun g S σ env Q R ev p => by
  refine we_of (pe_lc (g := fun v σ H Q => ∀ s H0 C cl' fp, WG (X.blk s H0 scope (compEnvC scope cl' C X.env) fp) tg v σ H Q) (tt := fun σ H Q => ∀ s H0 C cl' fp, WTs (X.blk s H0 scope (compEnvC scope cl' C X.env) fp) ifs σ H Q)
    (te := fun σ H Q => ∀ s H0 C cl' fp, WE (X.blk s H0 scope (compEnvC scope cl' C X.env) fp) elt σ H Q) hc hN (pi_wi X tg iter) ok
    (fun s H C cl' fp => ⟨fun pins s' σ H' v u Q I r h => h s H C cl' fp pins s' u I r⟩) (fun s H C cl' fp => ⟨fun pins s' σ H' Q I h => h s H C cl' fp pins s' I⟩) (fun s H C cl' fp => ⟨fun pins s' σ H' Q I h => h s H C cl' fp pins s' I⟩) hs) ?_
  simp only [evE] at p
  intro pins s I
  refine thn (hi W g S σ env (PostW c Wx σ Q) _ R ev p pins s I) fun v s1 hv => thn hv fun u s2 hp => ?_
  obtain ⟨it, fp, tn, J, H', e1, I2, T, st, fpo, q⟩ := hp
  refine ⟨it, fp, tn, J, H', e1, I2, T, st, fpo, ?_⟩
  obtain ⟨g1, S1, src, items, rfl, e1, R1, ev1, hit, hst, p1⟩ := q
  intro D hD
  obtain ⟨e0, R0⟩ := pend_ok (o := .lst []) R1 hD
  have hr0 : D ∉ g1.r := fun z => R1.some_ _ (R1.mem _ z) hD
  generalize hb : (fun x S => (ofO (bindT t x (wipeE env (own.map (·.2))) S) S).bind fun env' S => (evTs cl cc env' S).bind fun b S => if b then (evE cl ce env' S).bind fun w S => Pc.R.ok (some w) S else .ok none S) = b at p1
  generalize hf : (fun (ws : List W) (S : Sto) => (if m then (.ok (.loc S.length) (S ++ [.lst ws]) : Pc.R W) else (ofO (allD ws) S).bind fun ds S => .ok (.d (.lst ds)) S)) = fin at p1
  refine ⟨fun i m' H' => ∃ g2 S2 acc vs, H' = g2.H ∧ Ext g1 g2 ∧ Rl c g2 S2 ∧ g2.M D ∧ D ∉ g2.r ∧ g2.H D = some (.lst vs) ∧ RWs c.K g2 acc vs ∧ m' = items.length - i ∧ i ≤ items.length ∧ EnvR c.K g2 env σ ∧ (PostW c Wx σ Q).p g1 ((lcR b k src items (items.drop i) acc S2).bind fin),
    ⟨items.length, g1.pend D (.lst []), S1, [], [], rfl, e0, R0, .inr rfl, hr0, upd_same, rfl, rfl, Nat.zero_le _, ev1.mono R1 e0, by rw [List.drop_zero]; exact p1⟩, ?_⟩
  rintro i m' _ ⟨g2, S2, acc, vs, rfl, e2, R2, hM, hr, hH, ra, rfl, hile, ev2, p2⟩
  by_cases hil : i = items.length
  · subst hil
    left
    rw [List.drop_length] at p2
    simp only [lcR] at p2
    by_cases hst2 : still k src items S2
    · rw [if_pos hst2] at p2
      refine ⟨hit.stop _ g2 S2 e2 R2 (Nat.le_refl _) hst2, ?_⟩
      have p3 : (PostW c Wx σ Q).p g1 (fin acc S2) := p2
      rw [← hf] at p3
      cases m with
      | true =>
        obtain ⟨e3, R3⟩ := pcell_ok hD e2 R2 hM hr (ce := .lst acc) ⟨vs, hH, ra⟩
        refine p3 (.ref D) { g2 with r := g2.r ++ [D] } e3 R3 ⟨D, ?_, rfl⟩
        show (g2.r ++ [D])[S2.length]? = some D
        rw [← R2.len, List.getElem?_append_right (Nat.le_refl _), Nat.sub_self]; rfl
      | false =>
        obtain ⟨ds, hd, p3⟩ := PP.ofO _ p3
        obtain ⟨e3, R3⟩ := pdata_ok hD R1.some_ e2 R2 hr
        exact p3 (.ref D) { g2 with M := fun b => g2.M b ∧ b ≠ D } e3 R3 ⟨D, vs, rfl, hH, fun z => z.2 rfl, RDs.ofW hd (ra.weakM (fun _ z => z.1))⟩
    · rw [if_neg hst2] at p2; exact p2.elim
  · right
    have hlt : i < items.length := by omega
    rw [List.drop_eq_getElem_cons hlt] at p2
    simp only [lcR] at p2
    by_cases hst2 : still k src items S2
    · rw [if_pos hst2] at p2
      rw [bind_asc] at p2
      have hx : items[i]? = some items[i] := List.getElem?_eq_getElem hlt
      obtain ⟨hgo, hy⟩ := hit.go i _ g2 S2 e2 R2 hx hst2
      refine ⟨hgo, fun H' => ∃ g2 S2 acc vs, H' = g2.H ∧ Ext g1 g2 ∧ Rl c g2 S2 ∧ g2.M D ∧ D ∉ g2.r ∧ g2.H D = some (.lst vs) ∧ RWs c.K g2 acc vs ∧ EnvR c.K g2 env σ ∧ (PostW c Wx σ Q).p g1 ((lcR b k src items (items.drop (i + 1)) acc S2).bind fin), ?_, ?_⟩
      · rintro _ ⟨g3, S3, acc, vs, rfl, a1, a2, a3, a4, a5, a6, a7, a8⟩
        exact ⟨items.length - (i + 1), by omega, g3, S3, acc, vs, rfl, a1, a2, a3, a4, a5, a6, rfl, by omega, a7, a8⟩
      · intro x H'' hyx
        obtain ⟨rfl, rx⟩ := hy x H'' hyx
        obtain ⟨kk, hk⟩ : ∃ kk : Option W → Sto → Pc.R W, kk = fun (o : Option W) (S : Sto) => Pc.R.bind (match o with
          | some w => if acc.length < maxLen then lcR b k src items (items.drop (i + 1)) (acc ++ [w]) S else .err
          | none => lcR b k src items (items.drop (i + 1)) acc S) fin := ⟨_, rfl⟩
        have p2 : (PostW c Wx σ Q).p g1 ((noexc (b items[i] S2)).bind kk) := by rw [hk]; exact p2
        have p3 : ((PostW c Wx σ Q).inner g1 kk []).p g2 (b items[i] S2) := ⟨p2, e2⟩
        rw [← hb] at p3
        obtain ⟨env', hbt, p3⟩ := PP.ofO _ p3
        intro s0 H0 C cl' fp'
        refine hg s0 H0 C cl' fp' g2 S2 (L2.wipe σ (own.map (·.2))) (wipeE env (own.map (·.2))) env' _ x _ R2 (ev2.wipe _) rx hbt fun σ' ev3 h3 h4 => ?_
        refine ⟨wipe_same h3 h4 hsub, fun s0 H0 C cl' fp' pins s I => ?_⟩
        have p3 : ((PostW c Wx σ Q).inner g1 kk σ').p g2 _ := p3
        refine thn ((ht s0 H0 C cl' fp').mid ((PostW c Wx σ Q).inner g1 kk σ') R2 ev3 p3 pins s I) fun bb s3 ⟨H3, I3, q3⟩ => ⟨H3, I3, ?_⟩
        obtain ⟨g3, S3, rfl, e3, R3, ev4, p4⟩ := q3
        cases bb with
        | true =>
          rw [if_pos rfl]
          intro s0 H0 C cl' fp'
          refine ((he s0 H0 C cl' fp').mid ((PostW c Wx σ Q).inner g1 kk σ') R3 ev4 p4).mono ?_
          rintro y _ ⟨g4, S4, w, rfl, e4, R4, ev5, ry, p5, eb⟩
          have p5 : (PostW c Wx σ Q).p g1 (kk (some w) S4) := p5
          rw [hk] at p5
          have e24 : Ext g2 g4 := e3.trans e4
          have hH4 : g4.H D = some (.lst vs) := e24.keep D _ hH hr (fun _ z => nomatch z)
          have hr4 : D ∉ g4.r := pend_not e24 hH hr
          have hM4 : g4.M D := e24.old D hM
          dsimp only at p5
          by_cases hq : acc.length < maxLen
          · rw [if_pos hq] at p5
            have ra4 := ra.mono R2 e24
            refine ⟨vs, hH4, by rw [← ra.length, ← maxLen_eq]; exact hq, ?_⟩
            obtain ⟨e5, R5⟩ := pset_ok (o := .lst (vs ++ [y])) hD eb R4 hM4 hH4 True.intro hr4
            exact ⟨g4.pset D (.lst (vs ++ [y])), S4, acc ++ [w], vs ++ [y], rfl, e5, R5, hM4, hr4, upd_same,
              (ra4.append (show RWs c.K g4 [w] [y] from ⟨y, [], rfl, ry, rfl⟩)).pset hM4 hH4 True.intro, (ev2.mono R2 e24).pset hM4 hH4 True.intro, p5⟩
          · rw [if_neg hq] at p5; exact p5.elim
        | false =>
          rw [if_neg Bool.false_ne_true]
          have p5 : (PostW c Wx σ Q).p g1 (kk none S3) := p4.1
          rw [hk] at p5
          exact ⟨g3, S3, acc, vs, rfl, e2.trans e3, R3, e3.old D hM, pend_not e3 hH hr, e3.keep D _ hH hr (fun _ z => nomatch z), ra.mono R2 e3, ev2.mono R2 e3, p5⟩
    · rw [if_neg hst2] at p2; exact p2.elim
end
end Pc
set_option Elab.async false
set_option linter.all false
set_option maxRecDepth 100000
set_option autoImplicit false
set_option maxHeartbeats 1000000
/-! PcS10: statements -/
namespace Pc
open PySem PySem.Spec PyProof.Rows L2

def WS (X : Cx) (st : Stmt) : TS := fun D σ H => ∀ pins s, Inv X pins σ H s → wpAny (model X.prog X.w) X.A (exec st X.env) (SP X pins D) X.xe s
theorem ps_ws (X : Cx) (st : Stmt) : PS X st (WS X st) := ⟨fun pins s σ H D I h => h pins s I⟩
theorem ws_of {X : Cx} {st : Stmt} {t : TS} (h : PS X st t) {D : Ends} {σ : L2.St} {H : Hp} (q : t D σ H) : WS X st D σ H := fun pins s I => h.run pins s σ H D I q
def WSs (X : Cx) (st : List Stmt) : TS := fun D σ H => ∀ pins s, Inv X pins σ H s → wpAny (model X.prog X.w) X.A (execs st X.env) (SP X pins D) X.xe s
theorem pss_wss (X : Cx) (st : List Stmt) : PSs X st (WSs X st) := ⟨fun pins s σ H D I h => h pins s I⟩
theorem wss_of {X : Cx} {st : List Stmt} {t : TS} (h : PSs X st t) {D : Ends} {σ : L2.St} {H : Hp} (q : t D σ H) : WSs X st D σ H := fun pins s I => h.run pins s σ H D I q

section
variable (c : Cfg) (Wx : WX)
def FlP (D : Ends) (g : Gh) (σ : L2.St) : Fl → Prop
  | .nx => D.nx σ g.H
  | .brk => D.bk σ g.H
  | .cont => D.ct σ g.H
  | .ret w => ∀ v, RW c.K g w v → D.rt v g.H
  | .exc x => ∀ cls d, ExR c x cls d g.H → Wx cls d σ g.H
def PostS (D : Ends) (g : Gh) (r : R (Fl × Env)) : Prop := match r with
  | .ok p S => ∀ σ' g', Ext g g' → Rl c g' S → EnvR c.K g' p.2 σ' → FlP c Wx D g' σ' p.1
  | _ => False
end
section
variable {c : Cfg} {cl : Call} {X : Cx} {Wx : WX} {D : Ends}
theorem PostS.mono {g g' : Gh} {r : R (Fl × Env)} (e : Ext g g') (h : PostS c Wx D g r) : PostS c Wx D g' r := by
  cases r with
  | ok p S => exact fun σ' g2 e2 R ev => h σ' g2 (e.trans e2) R ev
  | exc x S => exact h
  | err => exact h
theorem PostS.ofO {α : Type} {g : Gh} {o : Option α} {S : Sto} {env : Env} {f : α → Sto → R (Fl × Env)} (h : PostS c Wx D g (lft (Pc.ofO o S) env f)) : ∃ a, o = some a ∧ PostS c Wx D g (f a S) := by
  cases o with
  | none => exact h.elim
  | some a => exact ⟨a, rfl, h⟩
/-- an expression's post within a statement -/
def PPS (c : Cfg) (Wx : WX) (D : Ends) {α : Type} (gb : Gh) (Sb : Sto) (Rb : Rl c gb Sb) (env : Env) (σ : L2.St) (ev : EnvR c.K gb env σ) (f : α → Sto → R (Fl × Env)) : PP c Wx σ α where
  p := fun g r => PostS c Wx D gb (lft r env f) ∧ Ext gb g
  mono := fun e h => ⟨h.1, h.2.trans e⟩
  exc := fun h cls d g' e R rx => h.1 σ g' (h.2.trans e) R (ev.mono Rb (h.2.trans e)) cls d rx
  err := fun h => h.1
theorem bind_ret {α : Type} (r : R α) : r.bind (fun a S => .ok a S) = r := by cases r <;> rfl
theorem SE.stm {e : Expr} {ce : E} (h : SE c cl X Wx e ce) {g : Gh} {S : Sto} {σ : L2.St} {env : Env} {f : W → Sto → R (Fl × Env)} (R : Rl c g S) (ev : EnvR c.K g env σ) (p : PostS c Wx D g (lft (evE cl ce env S) env f)) :
    WE X e σ g.H (fun v H1 => ∃ g1 S1 w, H1 = g1.H ∧ Ext g g1 ∧ Rl c g1 S1 ∧ EnvR c.K g1 env σ ∧ RW c.K g1 w v ∧ PostS c Wx D g1 (f w S1)) := by
  refine (h.mid (PPS c Wx D g S R env σ ev f) (f := fun w S => .ok w S) R ev (by rw [bind_ret]; exact ⟨p, Ext.refl g⟩)).mono ?_
  rintro v _ ⟨g1, S1, w, rfl, e1, R1, ev1, rw1, p1, _⟩
  exact ⟨g1, S1, w, rfl, e1, R1, ev1, rw1, PostS.mono e1 p1⟩
theorem ST.stm {e : Expr} {ce : E} (h : ST c cl X Wx e ce) {g : Gh} {S : Sto} {σ : L2.St} {env : Env} {f : Bool → Sto → R (Fl × Env)} (R : Rl c g S) (ev : EnvR c.K g env σ) (p : PostS c Wx D g (lft (evT cl ce env S) env f)) :
    WT X e σ g.H (fun b H1 => ∃ g1 S1, H1 = g1.H ∧ Ext g g1 ∧ Rl c g1 S1 ∧ EnvR c.K g1 env σ ∧ PostS c Wx D g1 (f b S1)) := by
  intro pins s I
  refine thn (h.mid (PPS c Wx D g S R env σ ev f) (f := fun w S => .ok w S) R ev (by rw [bind_ret]; exact ⟨p, Ext.refl g⟩) pins s I) fun b s1 ⟨H1, I1, q⟩ => ⟨H1, I1, ?_⟩
  obtain ⟨g1, S1, rfl, e1, R1, ev1, p1, _⟩ := q
  exact ⟨g1, S1, rfl, e1, R1, ev1, PostS.mono e1 p1⟩

def SS (c : Cfg) (cl : Call) (X : Cx) (Wx : WX) (st : Stmt) (cs : C) : Prop := ∀ (g : Gh) (S : Sto) (σ : L2.St) (env : Env) (D : Ends), Rl c g S → EnvR c.K g env σ → PostS c Wx D g (exS cl cs env S) → WS X st D σ g.H
def SSs (c : Cfg) (cl : Call) (X : Cx) (Wx : WX) (st : List Stmt) (cs : List C) : Prop := ∀ (g : Gh) (S : Sto) (σ : L2.St) (env : Env) (D : Ends), Rl c g S → EnvR c.K g env σ → PostS c Wx D g (exSs cl cs env S) → WSs X st D σ g.H
theorem sss_nil : SSs c cl X Wx [] [] := fun g S σ env D R ev p => wss_of pss_nil (show D.nx σ g.H from by simp only [exSs] at p; exact p σ g (Ext.refl g) R ev)
theorem sss_cons {st : Stmt} {rest : List Stmt} {cs : C} {cr : List C} (h : SS c cl X Wx st cs) (hr : SSs c cl X Wx rest cr) : SSs c cl X Wx (st :: rest) (cs :: cr) := fun g S σ env D R ev p => by
  refine wss_of (pss_cons (ps_ws X st) (pss_wss X rest)) ?_
  simp only [exSs] at p
  refine h g S σ env { D with nx := WSs X rest D } R ev ?_
  cases he : exS cl cs env S with
  | err => rw [he] at p; exact p
  | exc x S1 => rw [he] at p; exact p
  | ok q S1 =>
    rw [he] at p
    obtain ⟨fl, env1⟩ := q
    intro σ' g' e R' ev'
    cases fl with
    | nx => exact hr g' S1 σ' env1 D R' ev' (PostS.mono e p)
    | brk => exact p σ' g' e R' ev'
    | cont => exact p σ' g' e R' ev'
    | ret w => exact p σ' g' e R' ev'
    | exc x => exact p σ' g' e R' ev'
theorem ss_pass {pos : Pos} : SS c cl X Wx (.Pass pos) .pass := fun g S σ env D R ev p => ws_of ps_pass (show D.nx σ g.H from by simp only [exS] at p; exact p σ g (Ext.refl g) R ev)
theorem ss_brk {pos : Pos} : SS c cl X Wx (.Break pos) .brk := fun g S σ env D R ev p => ws_of ps_break (show D.bk σ g.H from by simp only [exS] at p; exact p σ g (Ext.refl g) R ev)
theorem ss_cont {pos : Pos} : SS c cl X Wx (.Continue pos) .cont := fun g S σ env D R ev p => ws_of ps_continue (show D.ct σ g.H from by simp only [exS] at p; exact p σ g (Ext.refl g) R ev)
theorem ss_ex {e : Expr} {ce : E} {pos : Pos} (hs : swapsWith e none pos.line X.env = pure false) (h : SE c cl X Wx e ce) : SS c cl X Wx (.Expr e pos) (.ex ce) := fun g S σ env D R ev p => by
  refine ws_of (ps_expr (pe_we X e) hs) ?_
  simp only [exS] at p
  refine (h.stm R ev p).mono ?_
  rintro v _ ⟨g1, S1, w, rfl, e1, R1, ev1, rw1, p1⟩
  exact p1 σ g1 (Ext.refl g1) R1 ev1
theorem ss_ret {e : Expr} {ce : E} {pos : Pos} (h : SE c cl X Wx e ce) : SS c cl X Wx (.Return (some e) pos) (.ret ce) := fun g S σ env D R ev p => by
  refine ws_of (ps_ret (pe_we X e)) ?_
  simp only [exS] at p
  refine (h.stm R ev p).mono ?_
  rintro v _ ⟨g1, S1, w, rfl, e1, R1, ev1, rw1, p1⟩
  exact p1 σ g1 (Ext.refl g1) R1 ev1 v rw1
theorem ss_retN {pos : Pos} : SS c cl X Wx (.Return none pos) (.ret (.k .non)) := fun g S σ env D R ev p => by
  refine ws_of ps_retN ?_
  simp only [exS, evE] at p
  exact p σ g (Ext.refl g) R ev .non rfl
theorem ss_ifs {t : Expr} {ct : E} {a b : List Stmt} {ca cb : List C} {pos : Pos} (h : ST c cl X Wx t ct) (ha : SSs c cl X Wx a ca) (hb : SSs c cl X Wx b cb) : SS c cl X Wx (.If t a b pos) (.ifs ct ca cb) := fun g S σ env D R ev p => by
  refine ws_of (ps_if (pt_wt X t) (pss_wss X a) (pss_wss X b)) ?_
  simp only [exS] at p
  intro pins s I
  refine thn (h.stm R ev p pins s I) fun k s1 ⟨H1, I1, q⟩ => ⟨H1, I1, ?_⟩
  obtain ⟨g1, S1, rfl, e1, R1, ev1, p1⟩ := q
  cases k with
  | true => rw [if_pos rfl]; exact ha g1 S1 σ env D R1 ev1 p1
  | false => rw [if_neg Bool.false_ne_true]; exact hb g1 S1 σ env D R1 ev1 p1
/-- a store -/
theorem ss_asg {tg e : Expr} {t : Tg} {ce : E} {pos : Pos} (ht : TgOk c X tg t) (hs : swapsWithSole [tg] e pos.line X.env = pure false) (hw : swappedStores [tg] e X.env = pure none) (h1 : (assignEach [tg] X.env).map (·.2) = [assign tg X.env]) (h : SE c cl X Wx e ce) :
    SS c cl X Wx (.Assign [tg] e pos) (.asg t ce) := fun g S σ env D R ev p => by
  refine ws_of (ps_asg (pe_we X e) (pg_wg X tg) hs hw h1) ?_
  simp only [exS] at p
  refine (h.stm R ev p).mono ?_
  rintro v _ ⟨g1, S1, w, rfl, e1, R1, ev1, rw1, p1⟩
  obtain ⟨env', hb, p1⟩ := PostS.ofO p1
  exact ht g1 S1 σ env env' w v _ R1 ev1 rw1 hb fun σ' ev' _ _ => p1 σ' g1 (Ext.refl g1) R1 ev'
def rAnyIp (X : Cx) (op : Operator) : TIp := fun x y H Q => ∃ t, PIp X op t ∧ t x y H Q
theorem ip_any (X : Cx) (op : Operator) : PIp X op (rAnyIp X op) := fun pins s σ H x y v u Q I rx ry ⟨r, h, q⟩ => h pins s σ H x y v u Q I rx ry q
theorem aug_ok (o : BOp) {x y : W} {v u : V} {g : Gh} {S : Sto} {σ : L2.St} {Q : VK} (R : Rl c g S) (rx : RW c.K g x v) (ry : RW c.K g y u) (h : (PostW c Wx σ Q).p g (augW o x y S)) : rAnyIp X (bop o) v u g.H Q := by
  unfold augW at h
  split at h
  · cases rx; cases ry; exact ⟨_, ip_add, _, _, rfl, rfl, ret_int R h⟩
  · cases rx; cases ry; exact ⟨_, ip_sub, _, _, rfl, rfl, ret_int R h⟩
  · exact h.elim
theorem ss_aug {x : Str} {e : Expr} {ce : E} {o : BOp} {i : Nat} {p1 pos : Pos} (hx : StoN X x i) (h : SE c cl X Wx e ce) : SS c cl X Wx (.AugAssign (.Name x p1) (bop o) e pos) (.aug o i ce) := fun g S σ env D R ev p => by
  refine ws_of (ps_aug hx.nd hx.at_ hx.loc (pe_we X e) (ip_any X (bop o)) hx.fn) ?_
  simp only [exS] at p
  obtain ⟨w, hw, p⟩ := PostS.ofO p
  have hw' : env[i]? = some (some w) := by
    cases h : env[i]? with
    | none => rw [h] at hw; cases hw
    | some o => rw [h] at hw; rw [show o = some w from hw]
  obtain ⟨v, h1, h2⟩ := ev.at_ i w hw'
  refine ⟨v, h1, (h.stm R ev p).mono ?_⟩
  rintro u _ ⟨g1, S1, y, rfl, e1, R1, ev1, ry, p1⟩
  refine aug_ok (Wx := Wx) (σ := σ) o R1 (h2.mono R e1) ry ?_
  cases hc : augW o w y S1 with
  | err => rw [hc] at p1; exact p1
  | exc x S2 =>
    exfalso
    unfold augW at hc
    split at hc <;> cases hc
  | ok z S2 =>
    rw [hc] at p1
    intro v' g' e' R' rz
    exact p1 (σ.set i (some v')) g' e' R' ((ev1.mono R1 e').set i rz)
/-! ### stores into a dict, a list -/
theorem set_dict (hu : X.A.units + 64 < cLine) : PSet X (fun o i v H Q => ∃ a H', o = .ref a ∧ DPut H a i v H' ∧ Q H') := by
  intro pins s σ H o i v ov iv u Q I ro ri rv ⟨a, H', e, d, q⟩
  subst e
  obtain rfl : ov = Value.ref a := ro
  exact d_setItem (by omega) I d ri rv fun s4 I4 => ⟨H', I4, q⟩
def rAnySet (X : Cx) : TSet := fun o i v H Q => ∃ t, PSet X t ∧ t o i v H Q
theorem set_any (X : Cx) : PSet X (rAnySet X) := fun pins s σ H o i v ov iv u Q I ro ri rv ⟨r, h, q⟩ => h pins s σ H o i v ov iv u Q I ro ri rv q
theorem ss_setix {o i e : Expr} {co ci ce : E} {p1 pos : Pos} (hu : X.A.units + 64 < cLine) (ha : ∀ v, assign (.Subscript o i p1) X.env v = (do
      let ov ← holding [v] (eval o X.env)
      let iv ← holding [v, ov] (eval i X.env)
      standAt p1
      holding [v, ov, iv] (setItem ov iv v)
      release [v, ov, iv] [])) (hs : swapsWithSole [.Subscript o i p1] e pos.line X.env = pure false) (he : SE c cl X Wx e ce) (ho : SE c cl X Wx o co) (hi : SE c cl X Wx i ci) :
    SS c cl X Wx (.Assign [.Subscript o i p1] e pos) (.setix co ci ce) := fun g S σ env D R ev p => by
  refine ws_of (ps_asg (pe_we X e) (pg_sub (pe_we X o) (pe_we X i) (set_any X) ha) hs rfl rfl) ?_
  simp only [exS] at p
  refine (he.stm R ev p).mono ?_
  rintro v _ ⟨g1, S1, w, rfl, e1, R1, ev1, rv, p1⟩
  show WE X o σ g1.H _
  refine (ho.stm R1 ev1 p1).mono ?_
  rintro ov _ ⟨g2, S2, x, rfl, e2, R2, ev2, ro, p2⟩
  refine (hi.stm R2 ev2 p2).mono ?_
  rintro iv _ ⟨g3, S3, j, rfl, e3, R3, ev3, ri, p3⟩
  have rv3 := rv.mono R1 (e2.trans e3)
  have ro3 := ro.mono R2 e3
  cases x with
  | d y => exact p3.elim
  | loc n =>
    simp only [setixW] at p3
    split at p3
    · rename_i kvs hs
      split at p3
      · rename_i k hk
        by_cases hq : kvs.length < maxLen
        · rw [if_pos hq] at p3
          obtain ⟨a, rfl, hn, kvs', h1, h2⟩ := cell_of R3 ro3 hs
          have ek := keyW_v ri hk
          subst ek
          refine ⟨_, set_dict hu, a, _, rfl, DPut.k h1 (by rw [← h2.length, ← maxLen_eq]; exact hq), ?_⟩
          have ex := (cell_set (o := .dK (L2.putK kvs' k v)) R3 hn hs (fun _ z => nomatch z) (fun _ z => nomatch z) (ce' := .dct (Pc.putK kvs k w)))
          have e4 : Ext g3 (g3.put a (.dK (L2.putK kvs' k v))) := by
            have ha : a ∈ g3.r := List.mem_of_getElem? hn
            exact {
              pre := fun _ _ h => h
              keep := fun b u h hr _ => by
                show upd g3.H a _ b = some u
                rw [upd_ne (fun z => hr (by rw [z]; exact ha))]; exact h
              grow := fun _ h => .inl h
              old := fun _ h => h
              fresh := fun n a' h hn => by rw [show (g3.put a (.dK (L2.putK kvs' k v))).r = g3.r from rfl, List.getElem?_eq_none hn] at h; cases h
              st := fun b h => by
                show upd g3.H a _ b ≠ none
                by_cases hb : b = a
                · rw [hb, upd_same]; exact fun z => nomatch z
                · rw [upd_ne hb]; exact h }
          obtain ⟨e4, R4⟩ := ex ⟨_, upd_same, (h2.mono R3 e4).put k (rv3.mono R3 e4)⟩
          exact p3 σ _ e4 R4 (ev3.mono R3 e4)
        · rw [if_neg hq] at p3; exact p3.elim
      · exact p3.elim
    · rename_i ws hs
      split at p3
      · rename_i k
        by_cases hq : 0 ≤ k ∧ k < ws.length
        · rw [if_pos hq] at p3
          obtain ⟨a, rfl, hn, vs, h1, h2⟩ := cell_of R3 ro3 hs
          have ek : iv = .int k := ri
          subst ek
          have hl := h2.length
          refine ⟨_, set_list, a, vs, k, k.toNat, rfl, rfl, h1, ?_, ?_⟩
          · unfold ixN; rw [if_pos hq.1, if_pos (by omega)]
          · have e4 : Ext g3 (g3.put a (.lst (vs.set k.toNat v))) := by
              have ha : a ∈ g3.r := List.mem_of_getElem? hn
              exact {
                pre := fun _ _ h => h
                keep := fun b u h hr _ => by
                  show upd g3.H a _ b = some u
                  rw [upd_ne (fun z => hr (by rw [z]; exact ha))]; exact h
                grow := fun _ h => .inl h
                old := fun _ h => h
                fresh := fun n a' h hn => by rw [show (g3.put a (.lst (vs.set k.toNat v))).r = g3.r from rfl, List.getElem?_eq_none hn] at h; cases h
                st := fun b h => by
                  show upd g3.H a _ b ≠ none
                  by_cases hb : b = a
                  · rw [hb, upd_same]; exact fun z => nomatch z
                  · rw [upd_ne hb]; exact h }
            obtain ⟨e4, R4⟩ := cell_set (o := .lst (vs.set k.toNat v)) R3 hn hs (fun _ z => nomatch z) (fun _ z => nomatch z) (ce' := .lst (ws.set k.toNat w)) ⟨_, upd_same, RWs.set _ (h2.mono R3 e4) (rv3.mono R3 e4)⟩
            exact p3 σ _ e4 R4 (ev3.mono R3 e4)
        · rw [if_neg hq] at p3; exact p3.elim
      · exact p3.elim
    · exact p3.elim
/-! ### loops -/
theorem ss_whil {t : Expr} {ct : E} {a : List Stmt} {ca : List C} {pos : Pos} (hp : PassesOwn (model X.prog X.w) X.A X.env X.xe) (ht : ST c cl X Wx t ct) (ha : SSs c cl X Wx a ca) : SS c cl X Wx (.While t a [] pos) (.whil ct ca) := fun g S σ env D R ev p => by
  refine ws_of (ps_while hp (pt_wt X t) (pss_wss X a)) ?_
  simp only [exS] at p
  unfold whl at p
  split at p
  · rename_i hex
    refine ⟨fun m σ' H' => ∃ g1 S1 env1, H' = g1.H ∧ Rl c g1 S1 ∧ EnvR c.K g1 env1 σ' ∧ PostS c Wx D g1 (wh (fun env S => evT cl ct env S) (fun env S => exSs cl ca env S) m env1 S1), ⟨Classical.choose hex, g, S, env, rfl, R, ev, p⟩, ?_⟩
    rintro m σ' _ ⟨g1, S1, env1, rfl, R1, ev1, p1⟩
    cases m with
    | zero => exact p1.elim
    | succ m =>
      simp only [wh] at p1
      intro pins s I
      refine thn (ht.stm R1 ev1 p1 pins s I) fun k s1 ⟨H1, I1, q⟩ => ⟨H1, I1, ?_⟩
      obtain ⟨g2, S2, rfl, e2, R2, ev2, p2⟩ := q
      cases k with
      | false => rw [if_neg Bool.false_ne_true]; exact p2 σ' g2 (Ext.refl g2) R2 ev2
      | true =>
        rw [if_pos rfl]
        refine ⟨fun σ3 H3 => ∃ g3 S3 env3, H3 = g3.H ∧ Rl c g3 S3 ∧ EnvR c.K g3 env3 σ3 ∧ PostS c Wx D g3 (wh (fun env S => evT cl ct env S) (fun env S => exSs cl ca env S) m env3 S3), fun σ3 H3 ⟨g3, S3, env3, a1, a2, a3, a4⟩ => ⟨m, Nat.lt_succ_self m, g3, S3, env3, a1, a2, a3, a4⟩, ?_⟩
        have p2 : PostS c Wx D g2 ((exSs cl ca env1 S2).bind fun p S => match p.1 with
          | .nx => wh (fun env S => evT cl ct env S) (fun env S => exSs cl ca env S) m p.2 S
          | .cont => wh (fun env S => evT cl ct env S) (fun env S => exSs cl ca env S) m p.2 S
          | .brk => .ok (.nx, p.2) S
          | .ret w => .ok (.ret w, p.2) S
          | .exc x => .ok (.exc x, p.2) S) := p2
        refine ha g2 S2 σ' env1 _ R2 ev2 ?_
        cases he : exSs cl ca env1 S2 with
        | err => rw [he] at p2; exact p2
        | exc x S3 => rw [he] at p2; exact p2
        | ok q S3 =>
          rw [he] at p2
          obtain ⟨fl, env3⟩ := q
          intro σ3 g3 e3 R3 ev3
          cases fl with
          | nx => exact ⟨g3, S3, env3, rfl, R3, ev3, PostS.mono e3 p2⟩
          | cont => exact ⟨g3, S3, env3, rfl, R3, ev3, PostS.mono e3 p2⟩
          | brk => exact p2 σ3 g3 e3 R3 ev3
          | ret w => exact p2 σ3 g3 e3 R3 ev3
          | exc x => exact p2 σ3 g3 e3 R3 ev3
  · exact p.elim
/-- what is walked, in a statement -/
theorem SI.stm {tg iter : Expr} {k : Ik} {is : List E} (h : SI c cl X Wx tg iter k is) {g : Gh} {S : Sto} {σ : L2.St} {env : Env} {f : List W → List W → Sto → R (Fl × Env)} (R : Rl c g S) (ev : EnvR c.K g env σ)
    (p : PostS c Wx D g (lft (evEs cl is env S) env fun src S => lft (ofO (itW k src S) S) env fun items S => f src items S)) :
    WI X tg iter σ g.H (fun J H1 => ∃ g1 S1 src items, H1 = g1.H ∧ Ext g g1 ∧ Rl c g1 S1 ∧ EnvR c.K g1 env σ ∧ IsIt c k src items J g1 ∧ still k src items S1 ∧ PostS c Wx D g1 (f src items S1)) := by
  intro pins s I
  have p' : (PPS c Wx D g S R env σ ev (fun (q : List W × List W) S => f q.1 q.2 S)).p g ((evEs cl is env S).bind fun src S => (ofO (itW k src S) S).bind fun items S => .ok (src, items) S) := by
    refine ⟨?_, Ext.refl g⟩
    cases he : evEs cl is env S with
    | err => rw [he] at p; exact p
    | exc x S1 => rw [he] at p; exact p
    | ok src S1 =>
      rw [he] at p
      have p : PostS c Wx D g (lft (ofO (itW k src S1) S1) env fun items S => f src items S) := p
      show PostS c Wx D g (lft ((ofO (itW k src S1) S1).bind fun items S => .ok (src, items) S) env _)
      cases hi : itW k src S1 with
      | none => rw [hi] at p; exact p
      | some items => rw [hi] at p; exact p
  refine thn (h (List W × List W) g S σ env _ (fun src items S => .ok (src, items) S) R ev p' pins s I) fun v s1 hv => thn hv fun u s2 hp => ?_
  obtain ⟨it, fp, tn, J, H', e1, I2, T, st, fpo, q⟩ := hp
  obtain ⟨g1, S1, src, items, rfl, e1', R1, ev1, hit, hst, p1, _⟩ := q
  exact ⟨it, fp, tn, J, _, e1, I2, T, st, fpo, g1, S1, src, items, rfl, e1', R1, ev1, hit, hst, PostS.mono e1' p1⟩
theorem ss_forr {tg iter : Expr} {k : Ik} {is : List E} {t : Tg} {a : List Stmt} {ca : List C} {pos : Pos} (hp : PassesOwn (model X.prog X.w) X.A X.env X.xe) (hc : X.calm = true) (hi : SI c cl X Wx tg iter k is) (ht : TgOk c X tg t) (ha : SSs c cl X Wx a ca)
    (hs : ∀ x, foldedSetIterable iter X.env x = pure x) : SS c cl X Wx (.For tg iter a [] pos) (.forr t k is ca) := fun g S σ env D R ev p => by
  refine ws_of (ps_for hp hc (pi_wi X tg iter) (pg_wg X tg) (pss_wss X a) hs) ?_
  simp only [exS] at p
  intro pins s I
  refine thn (hi.stm R ev p pins s I) fun v s1 hv => thn hv fun u s2 hpp => ?_
  obtain ⟨it, fp, tn, J, H', e1, I2, T, st, fpo, q⟩ := hpp
  refine ⟨it, fp, tn, J, H', e1, I2, T, st, fpo, ?_⟩
  obtain ⟨g1, S1, src, items, rfl, e1', R1, ev1, hit, hst, p1⟩ := q
  generalize hb : (fun x env S => lft (ofO (bindT t x env S) S) env fun env S => exSs cl ca env S) = b at p1
  refine ⟨fun i m' σ' H' => ∃ g2 S2 env2, H' = g2.H ∧ Ext g1 g2 ∧ Rl c g2 S2 ∧ m' = items.length - i ∧ i ≤ items.length ∧ EnvR c.K g2 env2 σ' ∧ PostS c Wx D g2 (forR b k src items (items.drop i) env2 S2),
    ⟨items.length, g1, S1, env, rfl, Ext.refl g1, R1, rfl, Nat.zero_le _, ev1, by rw [List.drop_zero]; exact p1⟩, ?_⟩
  rintro i m' σ' _ ⟨g2, S2, env2, rfl, e2, R2, rfl, hile, ev2, p2⟩
  by_cases hil : i = items.length
  · subst hil
    left
    rw [List.drop_length] at p2
    simp only [forR] at p2
    by_cases hst2 : still k src items S2
    · rw [if_pos hst2] at p2
      exact ⟨hit.stop _ g2 S2 e2 R2 (Nat.le_refl _) hst2, p2 σ' g2 (Ext.refl g2) R2 ev2⟩
    · rw [if_neg hst2] at p2; exact p2.elim
  · right
    have hlt : i < items.length := by omega
    rw [List.drop_eq_getElem_cons hlt] at p2
    simp only [forR] at p2
    by_cases hst2 : still k src items S2
    · rw [if_pos hst2] at p2
      have hx : items[i]? = some items[i] := List.getElem?_eq_getElem hlt
      obtain ⟨hgo, hy⟩ := hit.go i _ g2 S2 e2 R2 hx hst2
      refine ⟨hgo, fun σ' H' => ∃ g2 S2 env2, H' = g2.H ∧ Ext g1 g2 ∧ Rl c g2 S2 ∧ EnvR c.K g2 env2 σ' ∧ PostS c Wx D g2 (forR b k src items (items.drop (i + 1)) env2 S2), ?_, ?_⟩
      · rintro σ3 _ ⟨g3, S3, env3, rfl, a1, a2, a3, a4⟩
        exact ⟨items.length - (i + 1), by omega, g3, S3, env3, rfl, a1, a2, rfl, by omega, a3, a4⟩
      · intro x H'' hyx
        obtain ⟨rfl, rx⟩ := hy x H'' hyx
        cases hbt : bindT t items[i] env2 S2 with
        | none =>
          exfalso
          rw [← hb] at p2
          simp only [hbt, ofO, lft] at p2
          exact p2
        | some env' =>
          have hbe : b items[i] env2 S2 = exSs cl ca env' S2 := by
            rw [← hb]; simp only [hbt, ofO, lft]
          rw [hbe] at p2
          refine ht g2 S2 σ' env2 env' _ x _ R2 ev2 rx hbt fun σ2 ev3 _ _ => ?_
          refine ha g2 S2 σ2 env' _ R2 ev3 ?_
          cases he : exSs cl ca env' S2 with
          | err => rw [he] at p2; exact p2
          | exc x S3 => rw [he] at p2; exact p2
          | ok q S3 =>
            rw [he] at p2
            obtain ⟨fl, env3⟩ := q
            intro σ3 g3 e3 R3 ev4
            cases fl with
            | nx => exact ⟨g3, S3, env3, rfl, e2.trans e3, R3, ev4, PostS.mono e3 p2⟩
            | cont => exact ⟨g3, S3, env3, rfl, e2.trans e3, R3, ev4, PostS.mono e3 p2⟩
            | brk => exact p2 σ3 g3 e3 R3 ev4
            | ret w => exact p2 σ3 g3 e3 R3 ev4
            | exc x => exact p2 σ3 g3 e3 R3 ev4
    · rw [if_neg hst2] at p2; exact p2.elim
end
end Pc
set_option Elab.async false
set_option linter.all false
set_option maxRecDepth 100000
set_option autoImplicit false
set_option maxHeartbeats 1000000
/-! PcG1: a generator expression's own context -/
namespace Pc
open PySem PySem.Spec PyProof.Rows L2

/-- the names of a generator expression's block: its own (with their places in N), what it walks (.0), or captured -/
structure GxOk (N : List Str) (sc scope : Scope) (own : List (Str × Nat)) : Prop where
  kind : scope.kind = .function
  co : scope.isCoroutine = false
  uniq : ∀ y ∈ scope.names, scope.names.lookup y.1 = some y.2
  ix : ∀ p ∈ own, N[p.2]? = some p.1
  free : ∀ y ∈ scope.names, y.2 = .free → sc.names.lookup y.1 = some .cell ∨ sc.names.lookup y.1 = some .free
  own : ∀ y ∈ scope.names, y.2 = .local → y.1 ∈ own.map (·.1) ∨ y.1 ∉ N
  nocell : ∀ y ∈ scope.names, y.2 ≠ .cell
  dot : scope.names.lookup (".0" : Str) = some NameKind.local
def gxC (N : List Str) (sc scope : Scope) (own : List (Str × Nat)) : Bool :=
  (match scope.kind with | .function => true | _ => false) && (scope.isCoroutine == false) && (scope.names.all fun y => decide (scope.names.lookup y.1 = some y.2)) && (own.all fun p => decide (N[p.2]? = some p.1)) &&
    (scope.names.all fun y => match y.2 with
      | .free => (match sc.names.lookup y.1 with | some .cell => true | some .free => true | _ => false)
      | .local => decide (y.1 ∈ own.map (·.1)) || decide (y.1 ∉ N)
      | .cell => false
      | _ => true) && decide (scope.names.lookup (".0" : Str) = some NameKind.local)
theorem gxOk_by {N : List Str} {sc scope : Scope} {own : List (Str × Nat)} (h : gxC N sc scope own = true) : GxOk N sc scope own := by
  unfold gxC at h
  simp only [Bool.and_eq_true, List.all_eq_true, decide_eq_true_eq] at h
  obtain ⟨⟨⟨⟨⟨h1, h0⟩, h2⟩, h3⟩, h4⟩, h5⟩ := h
  refine ⟨?_, by simpa using h0, h2, h3, fun y hy e => ?_, fun y hy e => ?_, fun y hy e => ?_, h5⟩
  · split at h1
    · assumption
    · cases h1
  · have := h4 y hy
    rw [e] at this
    dsimp only at this
    split at this
    · rename_i q; exact .inl q
    · rename_i q; exact .inr q
    · cases this
  · have := h4 y hy
    rw [e] at this
    simpa using this
  · have := h4 y hy
    rw [e] at this
    cases this

/-- the generator's frame's environment -/
abbrev gxEnv (X : Cx) (scope : Scope) (C : Addr) (code : Value) : PySem.Env := genEnv scope (cloFrom X.env.cells scope.names []) C code builtinsNs X.env
/-- the context of the generator's code -/
abbrev gxCx (X : Cx) (s : Shared) (H : Hp) (scope : Scope) (cenv : PySem.Env) (fp : List Addr) : Cx :=
  { X with A := X.A.in1.in1.deeper cenv, s_0 := s, H_0 := H, env := cenv, outer := X.stack, stack := cenv :: X.stack, ex := fp, fn := fun x => scope.names.lookup x == some .cell, pn := [], xe := fun _ _ => False }
section
variable {X : Cx} {pins : List (Addr × Obj)} {σ : L2.St} {H : Hp} {s : Shared}
theorem gx_start {scope : Scope} {own : List (Str × Nat)} {fp : List Addr} {code : Value} {s' : Shared} {a : Addr} {go : Obj} {m : Str → Option Value} (I : Inv X pins σ H s) (hc : X.calm = true) (ok : GxOk X.N X.env.scope scope own) (hN : X.N.Nodup) (hfp : ∀ b ∈ fp, FpOk X pins H b ∧ b < s.heap.objs.size)
    (hos : s'.os = s.os) (hb : AllBare s'.gens) (kp : ∀ b o, s.heap.get? b = some o → s'.heap.get? b = some o) (hns : s'.heap.Ns s.heap.objs.size m) (ha : s'.heap.get? a = some go) (hal : s.heap.objs.size < a) (hgo : ∀ v, go.data ≠ .cell v) :
    Inv (gxCx X s H scope (gxEnv X scope s.heap.objs.size code) fp) [(a, go)] (wipe σ (own.map (·.2))) H s' := by
  have hfree : ∀ y ∈ scope.names, y.2 = .free → ∃ c, X.env.cells.lookup y.1 = some c := fun y hy e => by
    rcases ok.free y hy e with k | k
    · exact I.ok.has _ (.inl k)
    · exact I.ok.has _ (.inr k)
  generalize hcenv : gxEnv X scope s.heap.objs.size code = cenv
  have hL : cenv.locals = s.heap.objs.size := by rw [← hcenv]; rfl
  have hcl : cenv.cells = cloFrom X.env.cells scope.names [] := by rw [← hcenv]; rfl
  have hsc : cenv.scope = scope := by rw [← hcenv]; rfl
  have cm : ∀ {y c}, (y, c) ∈ cloFrom X.env.cells scope.names [] → X.env.cells.lookup y = some c ∧ c < s.heap.objs.size := fun {y c} hm => by
    rcases cloFrom_mem hm with hm | ⟨h1, rfl⟩
    · cases hm
    · obtain ⟨c, hc⟩ := hfree _ h1 rfl
      rw [hc]
      obtain ⟨w, z⟩ := I.cell _ _ hc
      exact ⟨rfl, z.lt⟩
  have mem : ∀ {y c}, cenv.cells.lookup y = some c → X.env.cells.lookup y = some c ∧ c < s.heap.objs.size := fun {y c} e => by
    rw [hcl] at e
    exact cm (PySem.mem_of_lookup e)
  have look : ∀ {y}, scope.names.lookup y = some .free → ∃ c, cenv.cells.lookup y = some c ∧ X.env.cells.lookup y = some c := fun {y} hl => by
    have hy : (y, NameKind.free) ∈ scope.names := PySem.mem_of_lookup hl
    obtain ⟨c', e'⟩ := mem_lookup (cloFrom_has (cells := X.env.cells) (acc := []) hy)
    rw [← hcl] at e'
    exact ⟨c', e', (mem e').1⟩
  have okB : (gxCx X s H scope cenv fp).Ok := by
    refine ⟨I.ok.mod, by show cenv.scope.kind = _; rw [hsc]; exact ok.kind, by show cenv.globals = _; rw [← hcenv]; exact I.ok.glob, by show cenv.builtins = _; rw [← hcenv]; rfl, by show s.heap.objs.size ≤ cenv.locals; rw [hL]; exact Nat.le_refl _,
      fun y z c e1 e2 => ?_, fun y hy => ?_, fun y c z e => ?_, fun _ => I.ok.hd hc, Around.frames_deeper (show X.A.in1.in1.frames = _ from I.ok.frames), .inr ⟨rfl, by show cenv.frame = some cenv.locals; rw [← hcenv]; rfl⟩, fun b hb => ⟨?_, fun y c e z => ?_⟩, I.bs, Nat.le_trans I.ok.bsz I.sz, fun b o e hb => ?_, fun b hb z => ?_, I.stack, I.stkFree⟩
    · exact I.ok.inj y z c (mem e1).1 (mem e2).1
    · show ∃ c, cenv.cells.lookup y = some c
      have hy : scope.names.lookup y = some .cell ∨ scope.names.lookup y = some .free := by
        rw [← hsc]; exact hy
      rcases hy with hy | hy
      · exact absurd rfl (ok.nocell _ (PySem.mem_of_lookup hy))
      · obtain ⟨c, h1, _⟩ := look hy
        exact ⟨c, h1⟩
    · have z : (scope.names.lookup y == some NameKind.cell) = true := z
      have z : scope.names.lookup y = some .cell := by simpa using z
      exact absurd rfl (ok.nocell _ (PySem.mem_of_lookup z))
    · show b ≠ cenv.locals
      rw [hL]; exact Nat.ne_of_lt (hfp b hb).2
    · exact (hfp b hb).1.2.2.2.2.1 y c (mem e).1 z
    · rcases (hfp b hb).1.2.2.2.1 with z | z
      · exact I.ok.noex b o e z
      · exact absurd (Nat.lt_of_lt_of_le (Heap.lt_size e) (Nat.le_trans I.ok.bsz z)) (Nat.lt_irrefl _)
    · rcases List.mem_cons.mp (I.stkSub b z) with z | z
      · exact (hfp b hb).1.2.1 z
      · exact (hfp b hb).1.2.2.1 z
  have hna : ∀ b, s.heap.objs.size ≤ b → b ∉ frs X.stack := fun b hb z => by
    rcases List.mem_cons.mp (I.stkSub b z) with z | z
    · exact absurd (Nat.lt_of_lt_of_le I.lt hb) (by rw [z]; exact Nat.lt_irrefl _)
    · exact I.nofs hb z
  refine ⟨okB, hos, hb, Un.kept kp, ⟨m, ?_, fun i y av e1 e2 e3 => ?_⟩, fun y c e => ?_, ?_, fun y c e => ?_, fun p hp => ?_, I.hok.kept kp, by rw [wipe_length]; exact I.len⟩
  · show Heap.Ns _ cenv.locals _
    rw [hL]; exact hns
  · obtain ⟨e2, hne⟩ := wipe_some e2
    have e3 : Vis scope y := by have e3 : Vis cenv.scope y := e3; rw [hsc] at e3; exact e3
    have hfr : scope.names.lookup y = some .free := by
      rcases e3 with e3 | e3 | e3
      · exfalso
        rcases ok.own _ (PySem.mem_of_lookup e3) rfl with e' | e'
        · obtain ⟨p, hp, hpy⟩ := List.mem_map.mp e'
          have e4 := ok.ix p hp
          have : p.1 = y := hpy
          rw [this] at e4
          exact hne (List.mem_map.mpr ⟨p, hp, nodup_ix hN e4 e1⟩)
        · exact e' (List.mem_of_getElem? e1)
      · exact absurd rfl (ok.nocell _ (PySem.mem_of_lookup e3))
      · exact e3
    obtain ⟨m0, hn, hl⟩ := I.loc
    have hvis : Vis X.env.scope y := (ok.free _ (PySem.mem_of_lookup hfr) rfl).elim (fun k => .inr (.inl k)) (fun k => .inr (.inr k))
    obtain ⟨w, r, q⟩ := hl i y av e1 e2 hvis
    refine ⟨w, r, .inr ⟨.inr (by show cenv.scope.names.lookup y = _; rw [hsc]; exact hfr), ?_⟩⟩
    obtain ⟨c, h1, h2⟩ := look hfr
    rcases q with ⟨k, _⟩ | ⟨_, c', e', z⟩
    · have k : X.env.scope.names.lookup y = some .local := k
      rcases ok.free _ (PySem.mem_of_lookup hfr) rfl with k' | k' <;> rw [show X.env.scope.names.lookup y = _ from k'] at k <;> cases k
    · rw [h2] at e'; cases e'
      exact ⟨c, h1, z.keeps kp⟩
  · obtain ⟨w, z⟩ := I.cell y c (mem e).1
    exact ⟨w, z.keeps kp⟩
  · show H cenv.locals = none
    rw [hL]; exact I.hok.fresh (Nat.le_refl _)
  · exact I.freeC y c (mem e).1
  · have hp' : p ∈ ([] : List (Addr × Obj)) ++ [(a, go)] := hp
    rw [List.nil_append, List.mem_singleton] at hp'
    subst hp'
    refine ⟨ha, I.hok.fresh (Nat.le_of_lt hal), by show a ≠ cenv.locals; rw [hL]; exact Nat.ne_of_gt hal, hna a (Nat.le_of_lt hal), hgo⟩
/-- the generators' array may be another one -/
theorem Inv.gensTo (I : Inv X pins σ H s) {g' : Array GenState} (hg : AllBare g') : Inv X pins σ H { s with gens := g' } :=
  ⟨I.ok, I.os, hg, I.base, I.loc, I.cell, I.free, I.freeC, I.pin, I.hok, I.len⟩
end
theorem over_gx {A : Around} {elt : Expr} {gs : List Comprehension} {scope : Scope} {pos : Pos} {it acc : Value} {env : PySem.Env} : A.over (.compLoop (.GeneratorExp elt gs scope pos) 0 it acc env) [] = A.deeper env := by
  obtain ⟨hd, d, fr, gs, u⟩ := A
  simp [Around.over, Around.deeper, marksOver, frameCount, unitsOf, envsOf, guardsOf, pushEnvs, pushGuards, Code.envs, Code.env?, Code.isFrame, Code.guards, Code.isGuard, Code.weight, Code.frames, Code.isCreation, Code.isCaller, Code.cUnits]
theorem over_gxs {A : Around} {elt : Expr} {gs : List Comprehension} {scope : Scope} {pos : Pos} {it acc : Value} {env : PySem.Env} : A.over (.compStart (.GeneratorExp elt gs scope pos) 0 it acc env) [] = A.deeper env := by
  obtain ⟨hd, d, fr, gs, u⟩ := A
  simp [Around.over, Around.deeper, marksOver, frameCount, unitsOf, envsOf, guardsOf, pushEnvs, pushGuards, Code.envs, Code.env?, Code.isFrame, Code.guards, Code.isGuard, Code.weight, Code.frames, Code.isCreation, Code.isCaller, Code.cUnits]
end Pc
set_option Elab.async false
set_option linter.all false
set_option maxRecDepth 100000
set_option autoImplicit false
set_option maxHeartbeats 1000000
/-! PcG2: the generator expression's turns -/
namespace Pc
open PySem PySem.Spec PyProof.Rows L2

section
variable {X : Cx} {s0 : Shared} {H0 : Hp} {scope : Scope} {cenv : PySem.Env} {fp : List Addr} {it a : Addr} {go : Obj} {tn : Nat → Heap → Prop} {J : It} {tg elt iter : Expr} {pos : Pos} {σw : L2.St} {own : List Nat}
variable (U : Nat → List (Addr × Obj) → Hp → Prop) (U' : Nat → List (Addr × Obj) → V → Hp → Prop) (len : Nat)
/-- an item is handed out -/
def gxY (X : Cx) (s0 : Shared) (H0 : Hp) (scope : Scope) (cenv : PySem.Env) (fp : List Addr) (a : Addr) (go : Obj) (tn : Nat → Heap → Prop) (σw : L2.St) (U : Nat → List (Addr × Obj) → Hp → Prop) (U' : Nat → List (Addr × Obj) → V → Hp → Prop) (len : Nat) : Protocol := fun m s₀ v s kap =>
  ∃ i y H xp, m + i = len ∧ i < len ∧ (∀ p ∈ xp, s₀.heap.get? p.1 = some p.2) ∧ Inv (gxCx X s0 H0 scope cenv fp) ((a, go) :: xp) σw H s ∧ tn (i + 1) s.heap ∧ (∀ b ∈ fp, H b = none) ∧ RelV y v ∧ U' i xp y H ∧
    ∀ s'' xp', Inv (gxCx X s0 H0 scope cenv fp) ((a, go) :: xp') σw H s'' → tn (i + 1) s''.heap → U (i + 1) xp' H → kap (.send .none) s''
/-- the end -/
def gxR (X : Cx) (s0 : Shared) (H0 : Hp) (scope : Scope) (cenv : PySem.Env) (fp : List Addr) (a : Addr) (go : Obj) (σw : L2.St) (U : Nat → List (Addr × Obj) → Hp → Prop) (len : Nat) : GenEnd := fun n s₀ r s =>
  r = .ok .next ∧ n = 1 ∧ ∃ H xp, (∀ p ∈ xp, s₀.heap.get? p.1 = some p.2) ∧ Inv (gxCx X s0 H0 scope cenv fp) ((a, go) :: xp) σw H s ∧ U len xp H
variable {U U' len}
theorem seg_gx (hc : X.calm = true) (hsc : cenv.scope.isCoroutine = false) (T : Turn X.prog X.w X.K tg J fp it tn) (ha : a ∉ fp) (hCp : ∀ i xp H, U i xp H → ∀ p ∈ xp, p.1 ∉ fp)
    (hstep : ∀ i xp H, U i xp H → i ≤ len → (J.stop i H ∧ i = len) ∨ (J.go i H ∧ i < len ∧ ∀ x H', J.yld i H x H' → WG (gxCx X s0 H0 scope cenv fp) tg x σw H' fun σ2 H2 => wipe σ2 own = wipe σw own ∧ WE (gxCx X s0 H0 scope cenv fp) elt σ2 H2 fun y H4 => U' i xp y H4))
    (hw : wipe σw own = σw) :
    ∀ (k i : Nat) (s₀ s : Shared) (H : Hp) (xp : List (Addr × Obj)), len - i = k → i ≤ len → (∀ p ∈ xp, s₀.heap.get? p.1 = some p.2) → Inv (gxCx X s0 H0 scope cenv fp) ((a, go) :: xp) σw H s → tn i s.heap → (∀ b ∈ fp, H b = none) → U i xp H →
      Seg (model X.prog X.w) X.A.in1.in1 (gxR X s0 H0 scope cenv fp a go σw U len) (gxY X s0 H0 scope cenv fp a go tn σw U U' len) (len + 1 - i) s₀
        (.compLoop (.GeneratorExp elt [⟨tg, iter, [], 0⟩] scope pos) 0 (.ref it) .none cenv)
        ((model X.prog X.w).den (.compLoop (.GeneratorExp elt [⟨tg, iter, [], 0⟩] scope pos) 0 (.ref it) .none cenv)) [] s := by
  have stat : ∀ {pins : List (Addr × Obj)} {σ' : L2.St} {H' : Hp} {s' : Shared}, Inv (gxCx X s0 H0 scope cenv fp) pins σ' H' s' → (∀ b ∈ fp, H' b = none) → (∀ p ∈ pins, p.1 ∉ fp) → ∀ b ∈ fp, FpOk (gxCx X s0 H0 scope cenv fp) pins H' b := fun {pins σ' H' s'} I' hn hp b hb =>
    ⟨hn b hb, (I'.ok.exf b hb).1, I'.ok.exfs b hb, .inl hb, fun x c e => (I'.ok.exf b hb).2 x c e, fun p hp' z => by
      have hp2 : p ∈ ([] : List (Addr × Obj)) ++ pins := hp'
      rw [List.nil_append] at hp2
      exact hp p hp2 (z ▸ hb)⟩
  have pinsOk : ∀ i xp H, U i xp H → ∀ p ∈ (a, go) :: xp, p.1 ∉ fp := fun i xp H h p hp => by
    rcases List.mem_cons.mp hp with e | e
    · rw [e]; exact ha
    · exact hCp i xp H h p e
  intro k
  induction k with
  | zero =>
    intro i s₀ s H xp hk hi h0 I st hn hU
    rcases hstep i xp H hU hi with ⟨hs, rfl⟩ | ⟨_, h1, _⟩
    · show Seg _ _ _ _ _ s₀ _ ((compTurn (.GeneratorExp elt [⟨tg, iter, [], 0⟩] scope pos) 0 (.ref it) .none cenv).onRaise (leaving cenv)) [] s
      rw [compTurn_gen, Sem.onRaise_eq_wrap]
      refine seg_bind_wrap (wpAny_standAt ?_)
      refine seg_bind_wrap ?_
      rw [over_gx]
      refine thnF (T.done (gxCx X s0 H0 scope cenv fp) rfl rfl rfl hc i _ s _ H (fun _ _ => False) I (stat I hn (pinsOk i xp H hU)) st hs) fun r s1 ⟨hr, I1⟩ => ?_
      subst hr
      exact seg_end (.ok .next) ⟨rfl, by omega, H, xp, h0, I1, hU⟩
    · omega
  | succ k ih =>
    intro i s₀ s H xp hk hi h0 I st hn hU
    rcases hstep i xp H hU hi with ⟨_, h1⟩ | ⟨hgo, hlt, hy⟩
    · omega
    · show Seg _ _ _ _ _ s₀ _ ((compTurn (.GeneratorExp elt [⟨tg, iter, [], 0⟩] scope pos) 0 (.ref it) .none cenv).onRaise (leaving cenv)) [] s
      rw [compTurn_gen, Sem.onRaise_eq_wrap]
      refine seg_bind_wrap (wpAny_standAt ?_)
      refine seg_bind_wrap ?_
      rw [over_gx]
      refine thnF (T.item (gxCx X s0 H0 scope cenv fp) rfl rfl rfl hc i _ s _ H (fun _ _ => False) I (stat I hn (pinsOk i xp H hU)) st hgo) fun r s1 ⟨u, hr, h1⟩ => ?_
      subst hr
      refine seg_bind_wrap ?_
      rw [over_gx]
      refine thnF h1 fun _ s2 ⟨x, H2, I2, rx, yx, st2, n2⟩ => ?_
      have I2' := I2.pinned (stat I2 n2 (pinsOk i xp H hU)) (T.obj _ _ st2)
      refine seg_bind_wrap ?_
      rw [over_gx]
      refine thnF (hy x H2 yx _ s2 u I2' rx) fun _ s3 ⟨σ3, H3, I3, hw3, q3⟩ => ?_
      simp only [List.forIn_nil]
      refine seg_bind_wrap (wpAny_pure ?_)
      simp only [if_true]
      have hyo : ∀ v, yieldOut cenv v = yieldValue v := fun v => by simp only [yieldOut, hsc, Bool.false_eq_true, if_false]
      simp only [hyo]
      rw [Sem.bind_eq_wrap', Sem.bind_eq_wrap', Sem.wrap_wrap, Sem.wrap_wrap]
      refine seg_wrap ?_
      rw [over_gx]
      refine thnF (q3 _ s3 I3) fun v s4 ⟨y, H4, I4, ry, u4⟩ => ?_
      -- back to the turn's beginning
      have pin' : ∀ b ∈ fp, ∀ o, s2.heap.get? b = some o → s4.heap.get? b = some o ∧ H4 b = none := fun b hb o e =>
        let z := I4.pin (b, o) (List.mem_append_right _ (List.mem_append_right _ (mem_pinsAt hb e)))
        ⟨z.1, z.2.1⟩
      have hl : σw.length = σ3.length := by
        have := congrArg List.length hw3
        rw [wipe_length, wipe_length] at this
        exact this.symm
      have I5 : Inv (gxCx X s0 H0 scope cenv fp) ((a, go) :: xp) σw H4 s4 := (I4.unpinned (pins := (a, go) :: xp)).weak hl (fun j v' e => by
        rw [← hw, ← hw3] at e
        exact (wipe_some e).1)
      have st5 : tn (i + 1) s4.heap := T.keep _ _ _ st2 fun b hb o e => (pin' b hb o e).1
      have n5 : ∀ b ∈ fp, H4 b = none := fun b hb => by
        obtain ⟨o, e, _⟩ := T.obj _ _ st2 b hb
        exact (pin' b hb o e).2
      have hlen : len + 1 - i = k + 1 + 1 := by omega
      rw [hlen]
      refine seg_at (seg_yield rfl rfl rfl ⟨i, y, H4, xp, by omega, hlt, h0, I5, st5, n5, ry, u4, fun s'' xp' I'' st'' hU' => ?_⟩)
      have e2 : k + 1 = len + 1 - (i + 1) := by omega
      rw [e2]
      exact seg_again rfl (ih (i + 1) s'' s'' H4 xp' (by omega) hlt (fun p hp => (I''.pin p (List.mem_append_right _ (List.mem_cons_of_mem _ hp))).1) I'' st'' n5 hU')
end
end Pc
set_option Elab.async false
set_option linter.all false
set_option maxRecDepth 100000
set_option autoImplicit false
set_option maxHeartbeats 1000000
/-! PcG3: the generators' array does not shrink; a generator's next item -/
namespace Pc
open PySem PySem.Spec PyProof.Rows L2

theorem runs_gens {M : Model} {Γ : PySem.Ctx} {p : Pos} {t : Sem Fin} {fs : List Frame} {s s' : Shared} {e : End} (h : Runs M Γ p t fs s e s') : s.gens.size ≤ s'.gens.size := by
  induction h <;> (try simp only [Shared.setGen, Array.size_push, Array.size_setIfInBounds] at *) <;> omega
theorem wakes_gens {M : Model} {Γ : PySem.Ctx} {p : Pos} {g : Nat} {r : Resume} {s s' : Shared} {res : GenResult} (h : Wakes M Γ p g r s res s') : s.gens.size ≤ s'.gens.size := by
  have st : ∀ (s : Shared) x, (s.setGen g x).gens.size = s.gens.size := fun s x => by simp [Shared.setGen]
  unfold Wakes at h
  split at h
  · exact h.elim
  · split at h
    · obtain ⟨e₁, s₁, hr, _, _, rfl⟩ := h
      have := runs_gens hr
      rw [st] at this ⊢; exact this
    · rw [h.2]; first | exact Nat.le_refl _ | (rw [st]; exact Nat.le_refl _)
    · rw [h.2]; first | exact Nat.le_refl _ | (rw [st]; exact Nat.le_refl _)
  · obtain ⟨e₁, s₁, hr, _, _, rfl⟩ := h
    have := runs_gens hr
    rw [st] at this ⊢; exact this
  · rw [h.2]; exact Nat.le_refl _
  · rw [h.2]; exact Nat.le_refl _
theorem wp_gens {α : Type} (M : Model) (Γ : PySem.Ctx) (n : Nat) (t : Sem α) : ∀ (Q : α → Pos → Shared → Prop) (E : Value → Pos → Shared → Prop) (p : Pos) (s : Shared), n ≤ s.gens.size → Sem.wp M Γ t Q E p s →
    Sem.wp M Γ t (fun a p' s' => n ≤ s'.gens.size ∧ Q a p' s') (fun e p' s' => n ≤ s'.gens.size ∧ E e p' s') p s := by
  induction t with
  | pure a => intro Q E p s hn h; exact ⟨hn, h⟩
  | raise e => intro Q E p s hn h; exact ⟨hn, h⟩
  | unsupported _ => intro Q E p s _ h; exact h
  | finish _ => intro Q E p s _ h; exact h
  | rule _ k ih => intro Q E p s hn h; exact ih () Q E p s hn h
  | «at» p' k ih => intro Q E p s hn h; exact ih () Q E p' s hn h
  | load a _ k ih => intro Q E p s hn h; obtain ⟨o, ho, h⟩ := h; exact ⟨o, ho, ih o Q E p s hn h⟩
  | update a _ f k ih => intro Q E p s hn h; exact ⟨h.1, ih () Q E p _ hn h.2⟩
  | loadIfAlive a k ih => intro Q E p s hn h; exact ih _ Q E p s hn h
  | point _ k ih => intro Q E p s hn h; exact ih () Q E p s hn h
  | register _ _ => intro Q E p s _ h; exact h
  | alloc o k ih => intro Q E p s hn h; exact ih _ Q E p _ hn h
  | fresh k ih => intro Q E p s hn h; exact ih _ Q E p _ hn h
  | ask k ih => intro Q E p s hn h; exact ih _ Q E p s hn h
  | choose src m k ih => intro Q E p s hn h; exact ⟨h.1, ih _ Q E p _ hn h.2⟩
  | os q _ k ih => intro Q E p s hn h; exact ih _ Q E p _ hn h
  | call c hd _ _ k ih => intro Q E p s hn h; obtain ⟨r, s', hr, h⟩ := h; exact ⟨r, s', hr, ih r Q E p s' (Nat.le_trans hn (runs_gens hr)) h⟩
  | handled own k ih => intro Q E p s hn h; exact ih _ Q E p s hn h
  | genState g k ih => intro Q E p s hn h; obtain ⟨st, hs, h⟩ := h; exact ⟨st, hs, ih _ Q E p s hn h⟩
  | newGen c k ih => intro Q E p s hn h; exact ih _ Q E p _ (by simp only [Array.size_push]; omega) h
  | resume g r _ k ih => intro Q E p s hn h; obtain ⟨res, s', hw, h⟩ := h; exact ⟨res, s', hw, ih res Q E p s' (Nat.le_trans hn (wakes_gens hw)) h⟩
  | yield _ _ _ _ => intro Q E p s _ h; exact h
  | stack k ih => intro Q E p s hn h; exact ih _ Q E p s hn h
  | fork _ _ => intro Q E p s _ h; exact h
  | thread k ih => intro Q E p s hn h; exact ih _ Q E p s hn h
  | await _ _ _ _ _ => intro Q E p s _ h; exact h
theorem any_gens {α : Type} {M : Model} {A : Around} {s : Shared} {t : Sem α} {Q : α → Shared → Prop} {E : Value → Shared → Prop} {n : Nat} (hn : n ≤ s.gens.size)
    (h : wpAny M A t (fun a s' => n ≤ s'.gens.size → Q a s') (fun e s' => n ≤ s'.gens.size → E e s') s) : wpAny M A t Q E s :=
  have h2 : wpAny M A t (fun a s' => n ≤ s'.gens.size ∧ (n ≤ s'.gens.size → Q a s')) (fun e s' => n ≤ s'.gens.size ∧ (n ≤ s'.gens.size → E e s')) s := fun Γ p hΓ => wp_gens M Γ n t _ _ p s hn (h Γ p hΓ)
  wpAny_mono h2 (fun _ _ x => x.2 x.1) (fun _ _ x => x.2 x.1)

theorem bare_set {s : Shared} {g : Nat} {x : GenState} (h : AllBare s.gens) (hx : x.bare = true) : AllBare (s.setGen g x).gens := by
  intro y hy
  obtain ⟨i, hi, rfl⟩ := Array.mem_iff_getElem.mp hy
  have hi' : i < s.gens.size := by simpa [Shared.setGen] using hi
  by_cases e : g = i
  · subst e
    simp only [Shared.setGen, Array.getElem_setIfInBounds_self]
    exact hx
  · simp only [Shared.setGen]
    rw [Array.getElem_setIfInBounds_ne hi' e]
    exact h _ (Array.getElem_mem hi')
theorem set_get {s : Shared} {g : Nat} {x : GenState} (h : g < s.gens.size) : (s.setGen g x).gens[g]? = some x := by
  simp [Shared.setGen, h]

section
variable {X : Cx} {s0 : Shared} {H0 : Hp} {scope : Scope} {cenv : PySem.Env} {fp : List Addr} {it a : Addr} {go : Obj} {tn : Nat → Heap → Prop} {J : It} {tg elt iter : Expr} {pos : Pos} {σw : L2.St} {own : List Nat}
variable {U : Nat → List (Addr × Obj) → Hp → Prop} {U' : Nat → List (Addr × Obj) → V → Hp → Prop} {len : Nat}
/-- from the beginning -/
theorem seg_gxs (hc : X.calm = true) (hsc : cenv.scope.isCoroutine = false) (T : Turn X.prog X.w X.K tg J fp it tn) (ha : a ∉ fp) (hCp : ∀ i xp H, U i xp H → ∀ p ∈ xp, p.1 ∉ fp)
    (hstep : ∀ i xp H, U i xp H → i ≤ len → (J.stop i H ∧ i = len) ∨ (J.go i H ∧ i < len ∧ ∀ x H', J.yld i H x H' → WG (gxCx X s0 H0 scope cenv fp) tg x σw H' fun σ2 H2 => wipe σ2 own = wipe σw own ∧ WE (gxCx X s0 H0 scope cenv fp) elt σ2 H2 fun y H4 => U' i xp y H4))
    (hw : wipe σw own = σw) (s₀ s : Shared) (H : Hp) (xp : List (Addr × Obj)) (h0 : ∀ p ∈ xp, s₀.heap.get? p.1 = some p.2) (I : Inv (gxCx X s0 H0 scope cenv fp) ((a, go) :: xp) σw H s) (st : tn 0 s.heap) (hn : ∀ b ∈ fp, H b = none) (hU : U 0 xp H) :
    Seg (model X.prog X.w) X.A.in1.in1 (gxR X s0 H0 scope cenv fp a go σw U len) (gxY X s0 H0 scope cenv fp a go tn σw U U' len) (len + 1) s₀
      (.compStart (.GeneratorExp elt [⟨tg, iter, [], 0⟩] scope pos) 0 (.ref it) .none cenv)
      ((model X.prog X.w).den (.compStart (.GeneratorExp elt [⟨tg, iter, [], 0⟩] scope pos) 0 (.ref it) .none cenv)) [] s := by
  have loop := seg_gx (iter := iter) (pos := pos) hc hsc T ha hCp hstep hw (len - 0) 0 s₀ s H xp rfl (Nat.zero_le _) h0 I st hn hU
  rw [Nat.sub_zero] at loop
  show Seg _ _ _ _ _ s₀ _ ((compStart (.GeneratorExp elt [⟨tg, iter, [], 0⟩] scope pos) 0 (.ref it) .none cenv).onRaise (leaving cenv)) [] s
  unfold compStart
  rw [Sem.onRaise_eq_wrap]
  show Seg _ _ _ _ _ s₀ _ ((ask >>= _).wrap _ _ _ _) [] s
  refine seg_bind_wrap (wpAny_askSetting ?_)
  split
  · exact seg_again rfl loop
  · first
      | exact seg_bind_wrap (wpAny_rule (seg_bind_wrap (wpAny_standAt (seg_bind_wrap (T.self _ 0 s _ _ st (seg_again rfl loop))))))
      | (refine seg_bind_wrap (wpAny_rule ?_); show Seg _ _ _ _ _ s₀ _ ((standAt iter.pos >>= _).wrap _ _ _ _) [] s; exact seg_bind_wrap (wpAny_standAt (seg_bind_wrap (T.self _ 0 s _ _ st (seg_again rfl loop)))))
/-- from turn i on the generator's state gs goes -/
def GxW (X : Cx) (s0 : Shared) (H0 : Hp) (scope : Scope) (cenv : PySem.Env) (fp : List Addr) (a : Addr) (go : Obj) (tn : Nat → Heap → Prop) (σw : L2.St) (U : Nat → List (Addr × Obj) → Hp → Prop) (U' : Nat → List (Addr × Obj) → V → Hp → Prop) (len i : Nat) (H : Hp) (gs : GenState) : Prop :=
  ∀ s'' xp', Inv (gxCx X s0 H0 scope cenv fp) ((a, go) :: xp') σw H s'' → tn i s''.heap → U i xp' H → gs.Goes (model X.prog X.w) X.A.in1.in1 (gxR X s0 H0 scope cenv fp a go σw U len) (gxY X s0 H0 scope cenv fp a go tn σw U U' len) (len + 1 - i) (.send .none) s''
theorem gen_next {Q : Option Value → Shared → Prop} {E : Value → Shared → Prop} {g i : Nat} {gs : GenState} {s : Shared} {H : Hp} {xp : List (Addr × Obj)} (hc : X.calm = true) (hroom : X.A.depth < recursionLimit) (hcs : go.cls = .type "generator" ∧ (∃ nm qn, go.data = .fields #[.int g 0, nm, qn]) ∧ go.slots = #[])
    (I : Inv (gxCx X s0 H0 scope cenv fp) ((a, go) :: xp) σw H s) (st : tn i s.heap) (hU : U i xp H) (hgs : s.gens[g]? = some gs) (hw : GxW X s0 H0 scope cenv fp a go tn σw U U' len i H gs) (hi : i ≤ len)
    (hY : i < len → ∀ y v H' xp' gs' s1, (∀ p ∈ xp', s.heap.get? p.1 = some p.2) → Inv (gxCx X s0 H0 scope cenv fp) ((a, go) :: xp') σw H' s1 → tn (i + 1) s1.heap → (∀ b ∈ fp, H' b = none) → RelV y v → U' i xp' y H' → s1.gens[g]? = some gs' → GxW X s0 H0 scope cenv fp a go tn σw U U' len (i + 1) H' gs' → Q (some v) s1)
    (hP : i = len → ∀ H' xp' s1, (∀ p ∈ xp', s.heap.get? p.1 = some p.2) → Inv (gxCx X s0 H0 scope cenv fp) ((a, go) :: xp') σw H' s1 → U len xp' H' → Q none s1) :
    wpAny (model X.prog X.w) X.A.in1 (pyNext (.ref a)) Q E s := by
  have hh : X.A.in1.handled = none := I.ok.hd hc
  have hlt : g < s.gens.size := by
    rcases Nat.lt_or_ge g s.gens.size with h | h
    · exact h
    · rw [Array.getElem?_eq_none h] at hgs; cases hgs
  have ha := (I.pin (a, go) (List.mem_append_right _ List.mem_cons_self)).1
  obtain ⟨h1, ⟨nm, qn, h2⟩, h3⟩ := hcs
  have hg : s.heap.IsGen a g := ⟨go, nm, qn, ha, h1, h2, h3⟩
  have I1 : Inv (gxCx X s0 H0 scope cenv fp) ((a, go) :: xp) σw H (s.setGen g .running) := Pc.Inv.gensTo I (bare_set I.bare rfl)
  refine any_gens (n := s.gens.size) (Nat.le_refl _) ?_
  refine wpAny_pyNext_genexpQ (A := X.A.in1) (n := len + 1 - i) (P := fun n s₀ s => n = 1 ∧ ∃ (H : Hp) (xp : List (Addr × Obj)), (∀ p ∈ xp, s₀.heap.get? p.1 = some p.2) ∧ Inv (gxCx X s0 H0 scope cenv fp) ((a, go) :: xp) σw H s ∧ U len xp H) hh I.nolimit hroom hg hgs (hw _ xp I1 st hU) (fun v s₁ gs' hb hv => ?_) (fun s₁ hp h' hk => ?_)
  · intro hsz
    obtain ⟨j, y, H', xp', e1, e0, h0, I2, st2, n2, ry, u2, hkap⟩ := hv
    have hsz : s.gens.size ≤ (s₁.setGen g gs').gens.size := hsz
    have hlt2 : g < s₁.gens.size := by
      have e2 : (s₁.setGen g gs').gens.size = s₁.gens.size := by simp [Shared.setGen]
      omega
    have hlt3 : i < len := by omega
    obtain rfl : j = i := by omega
    refine hY hlt3 y v H' xp' gs' _ h0 (Pc.Inv.gensTo I2 (bare_set I2.bare hb)) st2 n2 ry u2 (set_get hlt2) fun s'' xp2 I'' st'' hU'' => ?_
    have hk := hkap s'' xp2 I'' st'' hU''
    have e3 : len + 1 - j = (len + 1 - (j + 1)) + 1 := by omega
    rw [e3] at hk
    exact hk
  · intro _
    obtain ⟨e1, H', xp', h0, I2, u2⟩ := hp
    have hil : i = len := by omega
    refine hP hil H' xp' _ h0 ?_ u2
    have I3 := (Pc.Inv.gensTo I2 (bare_set (g := g) (x := .finished) I2.bare rfl)).kept (h' := h') (t' := s₁.toks) hk
    exact I3
end
end Pc
set_option Elab.async false
set_option linter.all false
set_option maxRecDepth 100000
set_option autoImplicit false
set_option maxHeartbeats 1000000
/-! PcG4: making a generator; all, any, sum over it -/
namespace Pc
open PySem PySem.Spec PyProof.Rows L2

section
variable {X : Cx} {pins : List (Addr × Obj)} {σ : L2.St} {H : Hp} {s : Shared}
/-- a generator that has just been made -/
structure Made (X : Cx) (pins : List (Addr × Obj)) (σ : L2.St) (P : Addr) (tg elt iter : Expr) (scope : Scope) (gpos : Pos) (own : List (Str × Nat)) (H1 : Hp) (J : It) (a : Addr) (s5 : Shared) (s4 : Shared) (H4 : Hp) (code : Value) (it : Addr) (fp : List Addr) (tn : Nat → Heap → Prop) (go : Obj) (g : Nat) : Prop where
  tab : GxR.Tabbed P H1 H4
  grow : ∀ ps, H1 P = some (.tbl ps) → ∃ more, H4 P = some (.tbl (ps ++ more))
  outer : Inv X pins σ H4 s4
  inn : Inv (gxCx X s4 H4 scope (gxEnv X scope s4.heap.objs.size code) fp) [(a, go)] (wipe σ (own.map (·.2))) H4 s5
  turn : Turn X.prog X.w X.K tg J fp it tn
  st : tn 0 s5.heap
  fok : ∀ b ∈ fp, FpOk X pins H4 b ∧ b < s4.heap.objs.size
  lt : s4.heap.objs.size < a ∧ a < s5.heap.objs.size
  genr : go.cls = .type "generator" ∧ (∃ nm qn, go.data = .fields #[.int g 0, nm, qn]) ∧ go.slots = #[]
  gs : s5.gens[g]? = some (.fresh (.compStart (.GeneratorExp elt [⟨tg, iter, [], 0⟩] scope gpos) 0 (.ref it) .none (gxEnv X scope s4.heap.objs.size code)))
theorem gx_make {c P : Addr} {tg elt iter : Expr} {gpos : Pos} {scope : Scope} {own : List (Str × Nat)} {k : Nat} {Q' : Value → Shared → Prop} {R : It → Hp → Prop}
    (hc : X.calm = true) (hr : Room k X.A) (TB : GxR.TabB X.base X.mg c P) (hcode : X.env.code = .ref c) (ok : GxOk X.N X.env.scope scope own) (hN : X.N.Nodup) (hs : ∀ v, genFold iter X.env v = pure v)
    (I : Inv X pins σ H s) (h : WI X tg iter σ H R) (hT : ∀ J H1, R J H1 → GxR.TabG H1 P)
    (hQ : ∀ J H1 a s5 s4 H4 code it fp tn go g, R J H1 → Made X pins σ P tg elt iter scope gpos own H1 J a s5 s4 H4 code it fp tn go g → Q' (.ref a) s5) :
    wpAny (model X.prog X.w) X.A (eval (.GeneratorExp elt [⟨tg, iter, [], 0⟩] scope gpos) X.env) Q' X.xe s := by
  have hfree : ∀ y ∈ scope.names, y.2 = .free → ∃ c, X.env.cells.lookup y.1 = some c := fun y hy e => by
    rcases ok.free y hy e with k | k
    · exact I.ok.has _ (.inl k)
    · exact I.ok.has _ (.inr k)
  refine wpAny_GeneratorExp_make ok.co (closure_ok hfree) ok.nocell ok.dot ok.kind hr.depth ?_ hs
  refine thn (h pins s I) fun v s1 hv => thn hv fun u s2 hp => ?_
  obtain ⟨it, fp, tn, J, H1, rfl, I2, T, st, fpo, q⟩ := hp
  obtain ⟨ps, hP, ht⟩ := hT J H1 q
  have hPs : s2.heap.get? P = some { cls := .none, data := .fields ps } := I2.hok P _ hP
  have cd : PySem.W.CodeHd s2.heap c P := TB.code.keeps fun b u e => I2.bk b u e
  refine ⟨I2.nolimit, ?_⟩
  have cont : ∀ (code : Value) (h3 : Heap) (tk : Nat) (ps' : Array Value), Heap.ExtBut P s2.heap h3 → s2.heap.objs.size ≤ h3.objs.size → h3.get? P = some { cls := .none, data := .fields ps' } → (∃ more, ps' = ps ++ more) → TriplesOk ps'.toList →
      wpAny (model X.prog X.w) X.A (builtinsFor X.env.globals X.env.builtins) (fun bi s₄ =>
        ∀ h', h'.Ns s₄.heap.objs.size (fun y => if y = ".0" then some (.ref it) else none) → Heap.SameBut s₄.heap.objs.size (s₄.heap.push { cls := .type "frame", data := .dict #[] }) h' →
          Q' (.ref h'.objs.size) { s₄ with
            gens := s₄.gens.push (.fresh (.compStart (.GeneratorExp elt [⟨tg, iter, [], 0⟩] scope gpos) 0 (.ref it) .none (genEnv scope (cloFrom X.env.cells scope.names []) s₄.heap.objs.size code bi X.env))),
            toks := s₄.toks + 1 + 1 + 1,
            heap := h'.push { cls := .type "generator", data := .fields #[.int s₄.gens.size 0, .str "<genexpr>" (s₄.toks + 1), .str (X.env.qual ++ "<genexpr>") (s₄.toks + 1 + 1)] } }) X.xe { s2 with heap := h3, toks := tk } := by
    intro code h3 tk ps' hx hsz hP3 hmore ht3
    obtain ⟨bm, ob, e1, e2, e3, e4, e5, e6, e7, e8⟩ := TB.bm
    have keep3 : ∀ b u, b ≠ P → s2.heap.get? b = some u → h3.get? b = some u := fun b u hb e => hx b u hb e
    refine wpAny_builtinsFor (m := X.mg) (by rw [I2.ok.glob]; exact (I2.mod.glob.keeps I2.bk).extBut hx TB.gP) e1 e2 (keep3 _ _ e4 (I2.bk _ _ e5)) e6 e7 e8 ?_
    intro h' hns hsb
    obtain ⟨more, rfl⟩ := hmore
    have I4 : Inv X pins σ (upd H1 P (.tbl (ps ++ more))) { s2 with heap := h3, toks := tk } := GxR.inv_tab (g' := s2.gens) (d' := s2.drawn) (t' := tk) I2 hP (fun b o hb e => keep3 b o hb e) hP3 I2.bare
    generalize hs4 : ({ s2 with heap := h3, toks := tk } : Shared) = s4 at I4 hns hsb ⊢
    have hh4 : s4.heap = h3 := by rw [← hs4]
    have kp : ∀ b o, s4.heap.get? b = some o → h'.get? b = some o := fun b o e => hsb.extBut b o (Nat.ne_of_lt (Heap.lt_size e)) (Heap.get?_push_of_some _ e)
    have hsz' : h'.objs.size = s4.heap.objs.size + 1 := by rw [hsb.1, Heap.size_push]
    have hne : ∀ b ∈ fp, b ≠ P := fun b hb z => by
      have := (fpo b hb).1
      rw [z, hP] at this; cases this
    have fok : ∀ b ∈ fp, FpOk X pins (upd H1 P (.tbl (ps ++ more))) b ∧ b < s4.heap.objs.size := fun b hb => by
      refine ⟨⟨by rw [upd_ne (hne b hb)]; exact (fpo b hb).1, (fpo b hb).2⟩, ?_⟩
      obtain ⟨o, e, _⟩ := T.obj _ _ st b hb
      rw [hh4]
      exact Heap.lt_size (keep3 b o (hne b hb) e)
    have st4 : tn 0 s4.heap := T.keep _ _ _ st fun b hb o e => by rw [hh4]; exact keep3 b o (hne b hb) e
    have kp5 : ∀ (o' : Obj) b o, s4.heap.get? b = some o → (h'.push o').get? b = some o := fun o' b o e => Heap.get?_push_of_some _ (kp b o e)
    refine hQ J H1 _ _ s4 _ code it fp tn { cls := .type "generator", data := .fields #[.int s4.gens.size 0, .str "<genexpr>" (s4.toks + 1), .str (X.env.qual ++ "<genexpr>") (s4.toks + 1 + 1)] } s4.gens.size q ⟨⟨⟨_, upd_same, ht3⟩, fun b hb => upd_ne hb⟩, fun ps2 e => ?_, I4, ?_, T, T.keep _ _ _ st4 fun b _ o e => kp5 _ b o e, fok, ⟨by rw [hsz']; exact Nat.lt_succ_self _, by rw [Heap.size_push]; exact Nat.lt_succ_self _⟩, by exact ⟨rfl, ⟨_, _, rfl⟩, rfl⟩, by exact Array.getElem?_push_size ..⟩
    · rw [hP] at e
      cases e
      exact ⟨more, upd_same⟩
    · exact gx_start I4 hc ok hN fok rfl (I4.bare.push rfl) (kp5 _) (hns.push _) (Heap.get?_push_size _ rfl) (by rw [hsz']; exact Nat.lt_succ_self _) (fun v z => by cases z)
  cases hf : codeAmong gpos ps.toList with
  | none =>
    refine wpAny_genexprCodeX hcode (cd.code hPs ht) (cd.tab hPs) hf fun c' h' tk hx hge hlt hco' _ htab' _ => ?_
    obtain ⟨o1, vs, f1, tf, fl, tg', inF, tx, tt, op, _, _, _, _, _, _, _, _, _, htr, _⟩ := hco'
    exact cont _ h' tk _ hx (Nat.le_trans hge (Nat.le_of_lt hlt)) htab'.2 ⟨_, rfl⟩ htr
  | some cv =>
    refine wpAny_genexprCode_hit hcode (cd.code hPs ht) hf ?_
    exact cont cv s2.heap s2.toks ps (Heap.ExtBut.refl _ _) (Nat.le_refl _) hPs ⟨#[], by simp⟩ ht
end
end Pc
set_option Elab.async false
set_option linter.all false
set_option maxRecDepth 100000
set_option autoImplicit false
set_option maxHeartbeats 1000000
/-! PcG5: all, any, sum over a generator -/
namespace Pc
open PySem PySem.Spec PyProof.Rows L2

section
variable {X : Cx} {s0 : Shared} {H0 : Hp} {scope : Scope} {cenv : PySem.Env} {fp : List Addr} {it a : Addr} {go : Obj} {tn : Nat → Heap → Prop} {σw : L2.St}
variable {U : Nat → List (Addr × Obj) → Hp → Prop} {U' : Nat → List (Addr × Obj) → V → Hp → Prop} {len g : Nat} {R : Result → Shared → Prop} {Zr : V → Hp → Prop}
def GxI (X : Cx) (s0 : Shared) (H0 : Hp) (scope : Scope) (cenv : PySem.Env) (fp : List Addr) (a : Addr) (go : Obj) (tn : Nat → Heap → Prop) (σw : L2.St) (U : Nat → List (Addr × Obj) → Hp → Prop) (U' : Nat → List (Addr × Obj) → V → Hp → Prop) (len g i : Nat) (s : Shared) : Prop :=
  ∃ H xp gs, i ≤ len ∧ Inv (gxCx X s0 H0 scope cenv fp) ((a, go) :: xp) σw H s ∧ tn i s.heap ∧ U i xp H ∧ s.gens[g]? = some gs ∧ GxW X s0 H0 scope cenv fp a go tn σw U U' len i H gs
theorem all_gx (hc : X.calm = true) (hroom : X.A.depth < recursionLimit) (hcs : go.cls = .type "generator" ∧ (∃ nm qn, go.data = .fields #[.int g 0, nm, qn]) ∧ go.slots = #[])
    (hU : ∀ i xp y H, U' i xp y H → ∃ b, y = .bl b ∧ (b = true → U (i + 1) xp H) ∧ (b = false → Zr (.bl false) H)) (hE : ∀ xp H, U len xp H → Zr (.bl true) H)
    (hR : ∀ v u H' xp' s', Inv (gxCx X s0 H0 scope cenv fp) ((a, go) :: xp') σw H' s' → RelV v u → Zr v H' → R (.ok (.ret u)) s') :
    ∀ (k i : Nat) (s : Shared), len - i = k → GxI X s0 H0 scope cenv fp a go tn σw U U' len g i s → codeAny (model X.prog X.w) X.A (.builtin "all.loop" ⟨[.ref a], []⟩) R s := by
  intro k
  induction k with
  | zero =>
    rintro i s hk ⟨H, xp, gs, hi, I, st, hU0, hgs, hw⟩
    refine codeAny_builtin F.entry_all_loop ?_
    rw [Around.under_plainId F.plain_all_loop _]
    show wpAny _ X.A.in1 (pyNext (.ref a) >>= _) _ _ s
    refine wpAny_bind (gen_next hc hroom hcs I st hU0 hgs hw hi (fun hlt => absurd hlt (by omega)) (fun e H' xp' s1 z1 I1 u1 => ?_))
    exact wpAny_bind (wpAny_rule (wpAny_pure (hR (.bl true) (.bool true) H' xp' s1 I1 rfl (hE _ _ u1))))
  | succ k ih =>
    rintro i s hk ⟨H, xp, gs, hi, I, st, hU0, hgs, hw⟩
    refine codeAny_builtin F.entry_all_loop ?_
    rw [Around.under_plainId F.plain_all_loop _]
    show wpAny _ X.A.in1 (pyNext (.ref a) >>= _) _ _ s
    refine wpAny_bind (gen_next hc hroom hcs I st hU0 hgs hw hi (fun hlt y v H' xp' gs' s1 z1 I1 st1 n1 ry u1 g1 w1 => ?_) (fun e H' xp' s1 z1 I1 u1 => absurd e (by omega)))
    obtain ⟨b, rfl, h1, h2⟩ := hU _ _ _ _ u1
    obtain rfl : v = .bool b := ry
    refine wpAny_bind (wpAny_holding (wpAny_truthy_bool ?_))
    refine wpAny_bind (wpAny_letGo ?_)
    cases b with
    | true =>
      simp only [if_true]
      exact wpAny_pure ⟨plainId_quiet F.plain_all_loop _, ih (i + 1) s1 (by omega) ⟨H', xp', gs', hlt, I1, st1, h1 rfl, g1, w1⟩⟩
    | false =>
      simp only [Bool.false_eq_true, if_false]
      exact wpAny_bind (wpAny_rule (wpAny_pure (hR (.bl false) (.bool false) H' xp' s1 I1 rfl (h2 rfl))))
theorem any_gx (hc : X.calm = true) (hroom : X.A.depth < recursionLimit) (hcs : go.cls = .type "generator" ∧ (∃ nm qn, go.data = .fields #[.int g 0, nm, qn]) ∧ go.slots = #[])
    (hU : ∀ i xp y H, U' i xp y H → ∃ b, y = .bl b ∧ (b = false → U (i + 1) xp H) ∧ (b = true → Zr (.bl true) H)) (hE : ∀ xp H, U len xp H → Zr (.bl false) H)
    (hR : ∀ v u H' xp' s', Inv (gxCx X s0 H0 scope cenv fp) ((a, go) :: xp') σw H' s' → RelV v u → Zr v H' → R (.ok (.ret u)) s') :
    ∀ (k i : Nat) (s : Shared), len - i = k → GxI X s0 H0 scope cenv fp a go tn σw U U' len g i s → codeAny (model X.prog X.w) X.A (.builtin "any.loop" ⟨[.ref a], []⟩) R s := by
  intro k
  induction k with
  | zero =>
    rintro i s hk ⟨H, xp, gs, hi, I, st, hU0, hgs, hw⟩
    refine codeAny_builtin F.entry_any_loop ?_
    rw [Around.under_plainId F.plain_any_loop _]
    show wpAny _ X.A.in1 (pyNext (.ref a) >>= _) _ _ s
    refine wpAny_bind (gen_next hc hroom hcs I st hU0 hgs hw hi (fun hlt => absurd hlt (by omega)) (fun e H' xp' s1 z1 I1 u1 => ?_))
    exact wpAny_bind (wpAny_rule (wpAny_pure (hR (.bl false) (.bool false) H' xp' s1 I1 rfl (hE _ _ u1))))
  | succ k ih =>
    rintro i s hk ⟨H, xp, gs, hi, I, st, hU0, hgs, hw⟩
    refine codeAny_builtin F.entry_any_loop ?_
    rw [Around.under_plainId F.plain_any_loop _]
    show wpAny _ X.A.in1 (pyNext (.ref a) >>= _) _ _ s
    refine wpAny_bind (gen_next hc hroom hcs I st hU0 hgs hw hi (fun hlt y v H' xp' gs' s1 z1 I1 st1 n1 ry u1 g1 w1 => ?_) (fun e H' xp' s1 z1 I1 u1 => absurd e (by omega)))
    obtain ⟨b, rfl, h1, h2⟩ := hU _ _ _ _ u1
    obtain rfl : v = .bool b := ry
    refine wpAny_bind (wpAny_holding (wpAny_truthy_bool ?_))
    refine wpAny_bind (wpAny_letGo ?_)
    cases b with
    | false =>
      simp only [Bool.false_eq_true, if_false]
      exact wpAny_pure ⟨plainId_quiet F.plain_any_loop _, ih (i + 1) s1 (by omega) ⟨H', xp', gs', hlt, I1, st1, h1 rfl, g1, w1⟩⟩
    | true =>
      simp only [if_true]
      exact wpAny_bind (wpAny_rule (wpAny_pure (hR (.bl true) (.bool true) H' xp' s1 I1 rfl (h2 rfl))))
/-- the state list of sum -/
def sumO (acc : Int) (t : Tok) (c : Nat) : Obj := { cls := .type "list", dict := none, data := .seq #[.int acc t] c, slots := #[] }
theorem sumO_inj {a b : Int} {t t' : Tok} {c d : Nat} (h : sumO a t c = sumO b t' d) : a = b := by
  unfold sumO at h
  injection h with _ _ h _
  injection h with h _
  have h2 := congrArg (fun xs : Array Value => xs[0]?) h
  simp only [List.getElem?_toArray, List.getElem?_cons_zero, Option.some.injEq, Value.int.injEq] at h2
  exact h2.1
theorem pin_set {X' : Cx} {σ : L2.St} {H : Hp} {s : Shared} {a S : Addr} {go o o' : Obj} {h' : Heap} {t' : Nat} (I : Inv X' [(a, go), (S, o)] σ H s) (hs : X'.s_0.heap.objs.size ≤ S) (hSa : S ≠ a) (hX : X'.pn = [])
    (k : ∀ b u, b ≠ S → s.heap.get? b = some u → h'.get? b = some u) (hn : h'.get? S = some o') (hd : ∀ v, o'.data ≠ .cell v) : Inv X' [(a, go), (S, o')] σ H { s with heap := h', toks := t' } := by
  obtain ⟨e, n, ne, nf, d⟩ := I.pin (S, o) (List.mem_append_right _ (by simp))
  have I1 : Inv X' [(a, go)] σ H s := I.pins_of fun p hp => I.pin p (List.mem_append_right _ (by rw [List.mem_singleton.mp hp]; exact List.mem_cons_self))
  have I2 : Inv X' [(a, go)] σ H { s with heap := h', toks := t' } := I1.turned (it := S) k n ne (.inr hs) (fun x c e' z => by
    obtain ⟨v, o2, ho2, hd2⟩ := I.cell x c e'
    have ho2 : s.heap.get? c = some o2 := ho2
    rw [z] at ho2
    have e : s.heap.get? S = some o := e
    rw [e] at ho2
    have q : o = o2 := Option.some.inj ho2
    exact d v (by rw [show (S, o).2 = o2 from q]; exact hd2)) (fun p hp => by
    rw [hX, List.nil_append, List.mem_singleton] at hp
    rw [hp]; exact Ne.symm hSa)
  refine I2.pins_of fun p hp => ?_
  rcases List.mem_cons.mp hp with z | z
  · rw [z]; exact I2.pin _ (List.mem_append_right _ List.mem_cons_self)
  · rw [List.mem_singleton.mp z]; exact ⟨hn, n, ne, nf, hd⟩
theorem sum_gx {S : Addr} {K : PySem.W.Frag} {tg : Expr} {J : It} (hc : X.calm = true) (hroom : X.A.depth < recursionLimit) (hcs : go.cls = .type "generator" ∧ (∃ nm qn, go.data = .fields #[.int g 0, nm, qn]) ∧ go.slots = #[])
    (T : Turn X.prog X.w K tg J fp it tn) (hSs : s0.heap.objs.size ≤ S) (hSa : S ≠ a) (hSf : S ∉ fp)
    (hX : ∀ i xp H, U i xp H → ∃ acc tA cc, xp = [(S, sumO acc tA cc)])
    (hU : ∀ i xp y H, U' i xp y H → ∃ acc tA cc v, xp = [(S, sumO acc tA cc)] ∧ y = .int v ∧ ((-(2 ^ 63) ≤ v ∧ v < 2 ^ 63) ∧ -(2 ^ 63) ≤ acc + v ∧ acc + v < 2 ^ 63) ∧ ∀ tB cd, U (i + 1) [(S, sumO (acc + v) tB cd)] H) (hE : ∀ acc tA cc H, U len [(S, sumO acc tA cc)] H → Zr (.int acc) H)
    (hR : ∀ v u H' xp' s', Inv (gxCx X s0 H0 scope cenv fp) ((a, go) :: xp') σw H' s' → RelV v u → Zr v H' → R (.ok (.ret u)) s') :
    ∀ (k i : Nat) (s : Shared), len - i = k → GxI X s0 H0 scope cenv fp a go tn σw U U' len g i s → codeAny (model X.prog X.w) X.A (.builtin "sum.loop" ⟨[.ref a, .ref S, rawInt 0, rawInt 0], []⟩) R s := by
  intro k
  induction k with
  | zero =>
    rintro i s hk ⟨H, xp, gs, hi, I, st, hU0, hgs, hw⟩
    obtain ⟨acc, tA, cc, rfl⟩ := hX _ _ _ hU0
    have hS := (I.pin (S, sumO acc tA cc) (List.mem_append_right _ (by simp))).1
    refine codeAny_builtin F.entry_sum_loop ?_
    rw [Around.under_plainId F.plain_sum_loop _]
    show wpAny _ X.A.in1 (seqItems? (.ref S) >>= _) _ _ s
    refine wpAny_bind (wpAny_seqItems hS rfl ?_)
    show wpAny _ X.A.in1 (tryCatch (pyNext (.ref a)) _ >>= _) _ _ s
    refine wpAny_bind (wpAny_tryCatch (gen_next hc hroom hcs I st hU0 hgs hw hi (fun hlt => absurd hlt (by omega)) (fun e H' xp' s1 z1 I1 u1 => ?_)))
    obtain ⟨acc1, tA1, cc1, rfl⟩ := hX _ _ _ u1
    have hS1 := z1 _ List.mem_cons_self
    rw [hS] at hS1
    have e1 : acc = acc1 := sumO_inj (Option.some.inj hS1)
    subst e1
    exact wpAny_pure (hR (.int acc) (.int acc tA) H' _ s1 I1 ⟨_, rfl⟩ (hE _ _ _ _ u1))
  | succ k ih =>
    rintro i s hk ⟨H, xp, gs, hi, I, st, hU0, hgs, hw⟩
    obtain ⟨acc, tA, cc, rfl⟩ := hX _ _ _ hU0
    have hS := (I.pin (S, sumO acc tA cc) (List.mem_append_right _ (by simp))).1
    refine codeAny_builtin F.entry_sum_loop ?_
    rw [Around.under_plainId F.plain_sum_loop _]
    show wpAny _ X.A.in1 (seqItems? (.ref S) >>= _) _ _ s
    refine wpAny_bind (wpAny_seqItems hS rfl ?_)
    show wpAny _ X.A.in1 (tryCatch (pyNext (.ref a)) _ >>= _) _ _ s
    refine wpAny_bind (wpAny_tryCatch (gen_next hc hroom hcs I st hU0 hgs hw hi (fun hlt y v H' xp' gs' s1 z1 I1 st1 n1 ry u1 g1 w1 => ?_) (fun e H' xp' s1 z1 I1 u1 => absurd e (by omega))))
    obtain ⟨acc1, tA1, cc1, y1, rfl, rfl, ⟨⟨b1, b2⟩, b3, b4⟩, h1⟩ := hU _ _ _ _ u1
    have hS1 := z1 _ List.mem_cons_self
    rw [hS] at hS1
    have e1 : acc = acc1 := sumO_inj (Option.some.inj hS1)
    subst e1
    obtain ⟨t, rfl⟩ : ∃ t, v = .int y1 t := ry
    have hS2 := (I1.pin (S, sumO acc tA1 cc1) (List.mem_append_right _ (by simp))).1
    have hcd : ((decide (-(2 ^ 63) ≤ y1) && decide (y1 < 2 ^ 63)) && (decide (-(2 ^ 63) ≤ acc + y1) && decide (acc + y1 < 2 ^ 63))) = true := by
      simp only [Bool.and_eq_true, decide_eq_true_eq]
      exact ⟨⟨b1, b2⟩, b3, b4⟩
    show wpAny _ X.A.in1 (if (_ : Bool) = true then (mkInt (acc + y1) >>= _) else _) _ _ _
    split
    · refine wpAny_bind (wpAny_mkInt ?_)
      show wpAny _ X.A.in1 (updateSeq S (fun _ => #[.int (acc + y1) s1.toks]) >>= _) _ _ _
      refine wpAny_bind (wpAny_updateSeq hS2 rfl (wpAny_pure ⟨plainId_quiet F.plain_sum_loop _, ih (i + 1) _ (by omega) ⟨H', [(S, sumO (acc + y1) s1.toks _)], gs', hlt, pin_set (s := s1) (t' := s1.toks + 1) I1 hSs hSa rfl (fun b u hb e => (Heap.get?_update_other _ _ (Ne.symm hb)).trans e) (Heap.get?_update_self _ hS2 rfl) (fun v z => by cases z), T.keep _ _ _ st1 fun b hb o e => (Heap.get?_update_other _ _ (fun h : S = b => hSf (by rw [h]; exact hb))).trans e, h1 _ _, g1, w1⟩⟩))
    · rename_i hneg
      exact absurd hcd hneg
end
end Pc
set_option Elab.async false
set_option linter.all false
set_option maxRecDepth 100000
set_option autoImplicit false
set_option maxHeartbeats 1000000
/-! PcG6: all(..), any(..), sum(..) of a generator expression -/
namespace Pc
open PySem PySem.Spec PyProof.Rows L2

def gkN : Gk → Str
  | .all => "all"
  | .any => "any"
  | .sum => "sum"
def gkS : Gk → String
  | .all => "all"
  | .any => "any"
  | .sum => "sum"
theorem gk_boot (gk : Gk) : bootBuiltins (gkN gk) = some (.builtin (gkS gk)) := by
  cases gk
  · exact boot_all
  · exact boot_any
  · exact boot_sum
theorem gk_nn (gk : Gk) : gkN gk ≠ "__name__" ∧ (gkN gk == ("__debug__" : Str)) = false := by
  cases gk <;> decide
theorem wipe_idem (σ : L2.St) (vs : List Nat) : wipe (wipe σ vs) vs = wipe σ vs := by
  apply List.ext_getElem?
  intro j
  rw [wipe_at (wipe σ vs) vs j]
  by_cases h : j ∈ vs
  · rw [if_pos h, wipe_at, if_pos h]
    cases σ[j]? <;> rfl
  · rw [if_neg h]
section
variable {c : Cfg} {g : Gh} {S : Sto}
theorem tab_ok {P : Addr} {H4 : Hp} (R : Rl c g S) (hP : P ∈ c.T) (ht : GxR.Tabbed P g.H H4) : Ext g { g with H := H4 } ∧ Rl c { g with H := H4 } S := by
  obtain ⟨ps, hp, _⟩ := R.tab P hP
  have hne : ∀ b o, g.H b = some o → (∀ q, o ≠ .tbl q) → b ≠ P := fun b o h q z => by
    rw [z, hp] at h; exact q ps (Option.some.inj h).symm
  have e : Ext g { g with H := H4 } :=
    ⟨fun _ _ h => h, fun b o h _ q => (ht.2 b (hne b o h q)).trans h, fun _ h => .inl h, fun _ h => h, fun n a h hn => (by rw [List.getElem?_eq_none hn] at h; cases h), fun b h => by
      by_cases hb : b = P
      · obtain ⟨q, hq, _⟩ := ht.1
        show H4 b ≠ none
        rw [hb, hq]; exact fun z => nomatch z
      · show H4 b ≠ none
        rw [ht.2 b hb]; exact h⟩
  refine ⟨e, R.len, R.nd, R.mem, fun n ce a h1 h2 => (R.cell n ce a h1 h2).mono R e ?_, fun P' hP' => ?_, fun b hb => e.st b (R.some_ b hb)⟩
  · obtain ⟨o, h3, _, _, h4⟩ := R.kind (List.mem_of_getElem? h2)
    exact ht.2 a (hne a o h3 h4)
  · by_cases hb : P' = P
    · rw [hb]; exact ht.1
    · obtain ⟨q, h1, h2⟩ := R.tab P' hP'
      exact ⟨q, (ht.2 P' hb).trans h1, h2⟩
end
section
variable {c : Cfg} {cl : Call} {X : Cx} {Wx : WX}
theorem se_gx {cA P : Addr} {gk : Gk} {p gpos pos : Pos} {tg elt iter : Expr} {scope : Scope} {own : List (Str × Nat)} {k : Ik} {is : List E} {t : Tg} {ce : E} {kk : Nat}
    (hc : X.calm = true) (hN : X.N.Nodup) (hr : Room kk X.A) (hg : Gl X (gkN gk)) (hm : X.mg (gkN gk) = none) (TB : GxR.TabB X.base X.mg cA P) (hcode : X.env.code = .ref cA) (hP : P ∈ c.T) (ok : GxOk X.N X.env.scope scope own) (hs : ∀ v, genFold iter X.env v = pure v)
    (hi : SI c cl X Wx tg iter k is) (htg : ∀ s H code fp, TgOk c (gxCx X s H scope (gxEnv X scope s.heap.objs.size code) fp) tg t) (he : ∀ s H code fp, SE c cl (gxCx X s H scope (gxEnv X scope s.heap.objs.size code) fp) Wx0 elt ce) (hsub : ∀ i ∈ tgs t, i ∈ own.map (·.2)) :
    SE c cl X Wx (.Call (.Name (gkN gk) p) [.GeneratorExp elt [⟨tg, iter, [], 0⟩] scope gpos] [] pos) (.gx gk t k is ce (own.map (·.2))) := fun g S σ env Q R ev p => by
  intro pins s I
  simp only [evE] at p
  have he' : starEach [.GeneratorExp elt [⟨tg, iter, [], 0⟩] scope gpos] X.env = (false, eval (.GeneratorExp elt [⟨tg, iter, [], 0⟩] scope gpos) X.env) :: starEach [] X.env := by rfl
  refine wpAny_Call_Name_kw (ld_blt (hn := (gk_nn gk).1) (hd := (gk_nn gk).2) I hg hm (gk_boot gk) ?_)
  refine PyProof.Rows.callWith_builtin1 ?_ he' (by rfl)
  rw [he']
  show wpAny _ _ (spliced ((false, eval (.GeneratorExp elt [⟨tg, iter, [], 0⟩] scope gpos) X.env) :: backTo pos (starEach [] X.env))) _ _ s
  refine Calls.spliced_cons (gx_make hc hr TB hcode ok hN hs I (hi W g S σ env (PostW c Wx σ Q) _ R ev p) ?_ fun J H1 a s5 s4 H4 code it fp tn go gn hq M => ?_)
  · rintro J H1 ⟨g1, S1, src, items, rfl, e1, R1, _⟩
    exact R1.tab P hP
  obtain ⟨g1, S1, src, items, rfl, e1, R1, ev1, hit, hst, p1⟩ := hq
  refine Calls.spliced_nil ?_
  obtain ⟨eT, RT⟩ := tab_ok R1 hP M.tab
  have haf : a ∉ fp := fun h => by
    exact absurd (Nat.lt_trans (M.fok a h).2 M.lt.1) (Nat.lt_irrefl _)
  have hdep := hr.depth
  have hw := wipe_idem σ (own.map (·.2))
  generalize hb : (fun x S => (ofO (bindT t x (wipeE env (own.map (·.2))) S) S).bind fun env' S => evE cl ce env' S) = b at p1
  have p1 : (PostW c Wx σ Q).p g1 (gR gk b k src items items 0 S1) := p1
  let U (Xp : Int → List (Addr × Obj) → Prop) (i : Nat) (xp : List (Addr × Obj)) (H : Hp) : Prop := ∃ acc g2 S2, Xp acc xp ∧ H = g2.H ∧ Ext g1 g2 ∧ Rl c g2 S2 ∧ EnvR c.K g2 env σ ∧ (PostW c Wx σ Q).p g1 (gR gk b k src items (items.drop i) acc S2)
  let U' (Xp : Int → List (Addr × Obj) → Prop) (i : Nat) (xp : List (Addr × Obj)) (y : V) (H : Hp) : Prop := ∃ acc g2 S2 w, Xp acc xp ∧ H = g2.H ∧ Ext g1 g2 ∧ Rl c g2 S2 ∧ EnvR c.K g2 env σ ∧ RW c.K g2 w y ∧ i < items.length ∧
    (PostW c Wx σ Q).p g1 (match gStep gk acc w with | .go acc' => gR gk b k src items (items.drop (i + 1)) acc' S2 | .stop w => .ok w S2 | .bad => .err)
  let Zr (v : V) (H : Hp) : Prop := ∃ g2 S2 w, H = g2.H ∧ Ext g1 g2 ∧ Rl c g2 S2 ∧ RW c.K g2 w v ∧ (PostW c Wx σ Q).p g1 (.ok w S2)
  have hstep : ∀ Xp i xp H, U Xp i xp H → i ≤ items.length → (J.stop i H ∧ i = items.length) ∨ (J.go i H ∧ i < items.length ∧ ∀ x H', J.yld i H x H' → WG (gxCx X s4 H4 scope (gxEnv X scope s4.heap.objs.size code) fp) tg x (wipe σ (own.map (·.2))) H' fun σ2 H2 =>
      wipe σ2 (own.map (·.2)) = wipe (wipe σ (own.map (·.2))) (own.map (·.2)) ∧ WE (gxCx X s4 H4 scope (gxEnv X scope s4.heap.objs.size code) fp) elt σ2 H2 fun y H4 => U' Xp i xp y H4) := by
    rintro Xp i xp _ ⟨acc, g2, S2, hXp, rfl, e2, R2, ev2, p2⟩ hile
    by_cases hil : i = items.length
    · subst hil
      left
      rw [List.drop_length] at p2
      simp only [gR] at p2
      by_cases hst2 : still k src items S2
      · exact ⟨hit.stop _ g2 S2 e2 R2 (Nat.le_refl _) hst2, rfl⟩
      · rw [if_neg hst2] at p2; exact p2.elim
    · right
      have hlt : i < items.length := by omega
      rw [List.drop_eq_getElem_cons hlt] at p2
      simp only [gR] at p2
      by_cases hst2 : still k src items S2
      · rw [if_pos hst2] at p2
        have hx : items[i]? = some items[i] := List.getElem?_eq_getElem hlt
        obtain ⟨hgo, hy⟩ := hit.go i _ g2 S2 e2 R2 hx hst2
        refine ⟨hgo, hlt, fun x H'' hyx => ?_⟩
        obtain ⟨rfl, rx⟩ := hy x H'' hyx
        obtain ⟨kq, hk⟩ : ∃ kq : W → Sto → Pc.R W, kq = fun (w : W) (S : Sto) => match gStep gk acc w with
          | .go acc' => gR gk b k src items (items.drop (i + 1)) acc' S
          | .stop w => .ok w S
          | .bad => .err := ⟨_, rfl⟩
        have p2 : (PostW c Wx σ Q).p g1 ((noexc (b items[i] S2)).bind kq) := by rw [hk]; exact p2
        have p3 : ((PostW c Wx σ Q).inner g1 kq []).p g2 (b items[i] S2) := ⟨p2, e2⟩
        rw [← hb] at p3
        obtain ⟨env', hbt, p3⟩ := PP.ofO _ p3
        refine htg s4 H4 code fp g2 S2 (wipe σ (own.map (·.2))) (wipeE env (own.map (·.2))) env' _ x _ R2 (ev2.wipe _) rx hbt fun σ' ev3 h3 h4 => ?_
        refine ⟨?_, ?_⟩
        · rw [hw]
          exact wipe_same h3 h4 hsub
        · refine ((he s4 H4 code fp).mid ((PostW c Wx σ Q).inner g1 kq σ') R2 ev3 (f := fun w S => .ok w S) ?_).mono ?_
          · rw [bind_ret]
            exact p3
          · rintro y _ ⟨g4, S4, w, rfl, e4, R4, ev5, ry, p5, eb⟩
            have p5 : (PostW c Wx σ Q).p g1 (kq w S4) := p5
            rw [hk] at p5
            exact ⟨acc, g4, S4, w, hXp, rfl, e2.trans e4, R4, ev2.mono R2 e4, ry, hlt, p5⟩
      · rw [if_neg hst2] at p2; exact p2.elim
  have hend : ∀ Xp xp H, U Xp items.length xp H → ∃ acc, Xp acc xp ∧ ∀ v, RW c.K ⟨fun _ => False, [], H⟩ (gFin gk acc) v → Zr v H := by
    rintro Xp xp _ ⟨acc, g2, S2, hXp, rfl, e2, R2, ev2, p2⟩
    refine ⟨acc, hXp, fun v hv => ?_⟩
    rw [List.drop_length] at p2
    simp only [gR] at p2
    by_cases hst2 : still k src items S2
    · rw [if_pos hst2] at p2
      refine ⟨g2, S2, _, rfl, e2, R2, ?_, p2⟩
      cases gk <;> exact hv
    · rw [if_neg hst2] at p2; exact p2.elim
  have hgw : ∀ (Xp : Int → List (Addr × Obj) → Prop), (∀ acc xp, Xp acc xp → ∀ p ∈ xp, p.1 ∉ fp) → GxW X s4 H4 scope (gxEnv X scope s4.heap.objs.size code) fp a go tn (wipe σ (own.map (·.2))) (U Xp) (U' Xp) items.length 0 H4
      (.fresh (.compStart (.GeneratorExp elt [⟨tg, iter, [], 0⟩] scope gpos) 0 (.ref it) .none (gxEnv X scope s4.heap.objs.size code))) := fun Xp hXp s'' xp' I'' st'' hU'' =>
    ⟨rfl, seg_gxs hc ok.co M.turn haf (fun i xp H ⟨acc, _, _, h, _⟩ => hXp acc xp h) (hstep Xp) hw s'' s'' H4 xp' (fun p hp => (I''.pin p (List.mem_append_right _ (List.mem_cons_of_mem _ hp))).1) I'' st'' (fun b hb => (M.fok b hb).1.1) hU''⟩
  have hU0 : ∀ (Xp : Int → List (Addr × Obj) → Prop) xp, Xp 0 xp → U Xp 0 xp H4 := fun Xp xp h => ⟨0, { g1 with H := H4 }, S1, h, rfl, eT, RT, ev1.mono R1 eT, by rw [List.drop_zero]; exact p1⟩
  have hfin : ∀ v u H' xp' s', Inv (gxCx X s4 H4 scope (gxEnv X scope s4.heap.objs.size code) fp) ((a, go) :: xp') (wipe σ (own.map (·.2))) H' s' → RelV v u → Zr v H' → EP X pins σ Q u s' := by
    rintro v u _ xp' s' I6 ru ⟨g2, S2, w, rfl, e2, R2, rw', p2⟩
    refine ⟨v, g2.H, M.outer.call' (ch := fp) I6.os I6.base I6.hok I6.bare fun b hb => ⟨(M.fok b hb).1.2.2.2.1, (M.fok b hb).1.2.1, (M.fok b hb).1.2.2.2.2.1, (M.fok b hb).1.2.2.2.2.2⟩, ru, p2 v g2 e2 R2 rw'⟩
  have hgen : s5.heap.IsGen a gn := by
    obtain ⟨h1, ⟨nm, qn, h2⟩, h3⟩ := M.genr
    exact ⟨go, nm, qn, (M.inn.pin (a, go) (List.mem_append_right _ List.mem_cons_self)).1, h1, h2, h3⟩
  cases gk with
  | all =>
    refine call_function_tree F.kind_all F.plain_all F.entry_all (F.args_all1 _) ?_
    unfold Builtin.«all»
    refine wpAny_bind (m := oneArg "all" _) (wpAny_pure ?_)
    refine wpAny_bind (wpAny_pyIter_gen hgen ?_)
    refine wpAny_pure ⟨plainId_quiet F.plain_all_loop _, all_gx (U := U (fun (acc : Int) (xp : List (Addr × Obj)) => acc = 0 ∧ xp = [])) (U' := U' (fun (acc : Int) (xp : List (Addr × Obj)) => acc = 0 ∧ xp = [])) (Zr := Zr) hc hdep M.genr ?_ ?_ hfin items.length 0 s5 rfl (by exact ⟨H4, [], _, Nat.zero_le _, M.inn, M.st, hU0 (fun (acc : Int) (xp : List (Addr × Obj)) => acc = 0 ∧ xp = []) _ ⟨rfl, rfl⟩, M.gs, hgw (fun (acc : Int) (xp : List (Addr × Obj)) => acc = 0 ∧ xp = []) (by rintro acc xp ⟨_, rfl⟩ p hp; cases hp)⟩)⟩
    · rintro i xp y _ ⟨acc, g2, S2, w, hXp, rfl, e2, R2, ev2, rw', hlt, p2⟩
      match w, rw', p2 with
      | .d (.bl true), rw', p2 => exact ⟨true, rw', fun _ => ⟨acc, g2, S2, hXp, rfl, e2, R2, ev2, p2⟩, fun h => by cases h⟩
      | .d (.bl false), rw', p2 => exact ⟨false, rw', fun h => (by cases h), fun _ => ⟨g2, S2, .d (.bl false), rfl, e2, R2, rfl, p2⟩⟩
      | .d .non, _, p2 => exact p2.elim
      | .d (.int _), _, p2 => exact p2.elim
      | .d (.str _), _, p2 => exact p2.elim
      | .d (.tup _), _, p2 => exact p2.elim
      | .d (.lst _), _, p2 => exact p2.elim
      | .d (.scr _), _, p2 => exact p2.elim
      | .loc _, _, p2 => exact p2.elim
    · intro xp H h
      obtain ⟨acc, _, h2⟩ := hend (fun (acc : Int) (xp : List (Addr × Obj)) => acc = 0 ∧ xp = []) _ _ h
      exact h2 _ rfl
  | any =>
    refine call_function_tree F.kind_any F.plain_any F.entry_any (F.args_any1 _) ?_
    unfold Builtin.«any»
    refine wpAny_bind (m := oneArg "any" _) (wpAny_pure ?_)
    refine wpAny_bind (wpAny_pyIter_gen hgen ?_)
    refine wpAny_pure ⟨plainId_quiet F.plain_any_loop _, any_gx (U := U (fun (acc : Int) (xp : List (Addr × Obj)) => acc = 0 ∧ xp = [])) (U' := U' (fun (acc : Int) (xp : List (Addr × Obj)) => acc = 0 ∧ xp = [])) (Zr := Zr) hc hdep M.genr ?_ ?_ hfin items.length 0 s5 rfl (by exact ⟨H4, [], _, Nat.zero_le _, M.inn, M.st, hU0 (fun (acc : Int) (xp : List (Addr × Obj)) => acc = 0 ∧ xp = []) _ ⟨rfl, rfl⟩, M.gs, hgw (fun (acc : Int) (xp : List (Addr × Obj)) => acc = 0 ∧ xp = []) (by rintro acc xp ⟨_, rfl⟩ p hp; cases hp)⟩)⟩
    · rintro i xp y _ ⟨acc, g2, S2, w, hXp, rfl, e2, R2, ev2, rw', hlt, p2⟩
      match w, rw', p2 with
      | .d (.bl false), rw', p2 => exact ⟨false, rw', fun _ => ⟨acc, g2, S2, hXp, rfl, e2, R2, ev2, p2⟩, fun h => by cases h⟩
      | .d (.bl true), rw', p2 => exact ⟨true, rw', fun h => (by cases h), fun _ => ⟨g2, S2, .d (.bl true), rfl, e2, R2, rfl, p2⟩⟩
      | .d .non, _, p2 => exact p2.elim
      | .d (.int _), _, p2 => exact p2.elim
      | .d (.str _), _, p2 => exact p2.elim
      | .d (.tup _), _, p2 => exact p2.elim
      | .d (.lst _), _, p2 => exact p2.elim
      | .d (.scr _), _, p2 => exact p2.elim
      | .loc _, _, p2 => exact p2.elim
    · intro xp H h
      obtain ⟨acc, _, h2⟩ := hend (fun (acc : Int) (xp : List (Addr × Obj)) => acc = 0 ∧ xp = []) _ _ h
      exact h2 _ rfl
  | sum =>
    refine call_function_tree F.kind_sum F.plain_sum F.entry_sum (F.args_sum1 _) ?_
    unfold Builtin.«sum»
    simp only [List.length_cons, List.length_nil]
    rw [if_neg (by decide)]
    refine wpAny_bind (wpAny_of_eq (show Builtin.Builtins.bindParams "sum" ["start"] 0 { } = pure [none] from rfl) ?_)
    refine wpAny_bind (wpAny_pyIter_gen hgen ?_)
    refine wpAny_bind (wpAny_mkInt ?_)
    refine wpAny_bind (wpAny_pure ?_)
    simp only [List.forIn_cons, List.forIn_nil]
    refine wpAny_bind (wpAny_bind (wpAny_bind (wpAny_isInstance (T := "int") (b := false) (typeIs_int _ _ _) PySem.sub_int_str ?_)))
    simp only [Bool.false_eq_true, if_false]
    refine wpAny_pure (wpAny_bind (wpAny_bind (wpAny_isInstance (T := "int") (b := false) (typeIs_int _ _ _) PySem.sub_int_bytes ?_)))
    simp only [Bool.false_eq_true, if_false]
    refine wpAny_pure (wpAny_bind (wpAny_bind (wpAny_isInstance (T := "int") (b := false) (typeIs_int _ _ _) PySem.sub_int_bytearray ?_)))
    simp only [Bool.false_eq_true, if_false]
    refine wpAny_pure (wpAny_pure ?_)
    refine wpAny_bind (wpAny_newObj_type ?_)
    have hSf : s5.heap.objs.size ∉ fp := fun hm => by
      exact absurd (Nat.lt_trans (M.fok _ hm).2 (Nat.lt_trans M.lt.1 M.lt.2)) (Nat.lt_irrefl _)
    have hXp : ∀ (acc : Int) (xp : List (Addr × Obj)), (∃ tA cc, xp = [(s5.heap.objs.size, sumO acc tA cc)]) → ∀ p ∈ xp, p.1 ∉ fp := by
      rintro acc xp ⟨tA, cc, rfl⟩ p hp
      rw [List.mem_singleton.mp hp]; exact hSf
    have I6 : Inv (gxCx X s4 H4 scope (gxEnv X scope s4.heap.objs.size code) fp) [(a, go)] (wipe σ (own.map (·.2))) H4 { s5 with heap := s5.heap.push (sumO 0 s5.toks 0), toks := s5.toks + 1 } := M.inn.kept fun b u e => Heap.get?_push_of_some _ e
    have I7 : Inv (gxCx X s4 H4 scope (gxEnv X scope s4.heap.objs.size code) fp) [(a, go), (s5.heap.objs.size, sumO 0 s5.toks 0)] (wipe σ (own.map (·.2))) H4 { s5 with heap := s5.heap.push (sumO 0 s5.toks 0), toks := s5.toks + 1 } := I6.pins_of fun p hp => by
      rcases List.mem_cons.mp hp with z | z
      · rw [z]; exact I6.pin _ (List.mem_append_right _ List.mem_cons_self)
      · rw [List.mem_singleton.mp z]
        exact ⟨Heap.get?_push_size _ rfl, M.inn.hok.fresh (Nat.le_refl _), Nat.ne_of_gt M.inn.lt, M.inn.nofs (Nat.le_refl _), fun v z => by cases z⟩
    refine wpAny_pure ⟨plainId_quiet F.plain_sum_loop _, sum_gx (S := s5.heap.objs.size) (U := U (fun (acc : Int) (xp : List (Addr × Obj)) => ∃ tA cc, xp = [(s5.heap.objs.size, sumO acc tA cc)])) (U' := U' (fun (acc : Int) (xp : List (Addr × Obj)) => ∃ tA cc, xp = [(s5.heap.objs.size, sumO acc tA cc)])) (Zr := Zr) hc hdep M.genr M.turn (Nat.le_of_lt (Nat.lt_trans M.lt.1 M.lt.2)) (Nat.ne_of_gt M.lt.2) hSf ?_ ?_ ?_ hfin items.length 0 _ rfl
      (by exact ⟨H4, [(s5.heap.objs.size, sumO 0 s5.toks 0)], _, Nat.zero_le _, I7, M.turn.keep _ _ _ M.st fun b _ o e => Heap.get?_push_of_some _ e, hU0 (fun (acc : Int) (xp : List (Addr × Obj)) => ∃ tA cc, xp = [(s5.heap.objs.size, sumO acc tA cc)]) _ ⟨_, _, rfl⟩, M.gs, hgw (fun (acc : Int) (xp : List (Addr × Obj)) => ∃ tA cc, xp = [(s5.heap.objs.size, sumO acc tA cc)]) hXp⟩)⟩
    · rintro i xp H ⟨acc, _, _, ⟨tA, cc, h⟩, _⟩
      exact ⟨acc, tA, cc, h⟩
    · rintro i xp y _ ⟨acc, g2, S2, w, ⟨tA, cc, hX⟩, rfl, e2, R2, ev2, rw', hlt, p2⟩
      match w, rw', p2 with
      | .d (.int v), rw', p2 =>
        simp only [gStep] at p2
        by_cases hq : (-(2 ^ 63) ≤ v ∧ v < 2 ^ 63) ∧ -(2 ^ 63) ≤ acc + v ∧ acc + v < 2 ^ 63
        · rw [if_pos hq] at p2
          exact ⟨acc, tA, cc, v, hX, rw', hq, fun tB cd => ⟨acc + v, g2, S2, ⟨tB, cd, rfl⟩, rfl, e2, R2, ev2, p2⟩⟩
        · rw [if_neg hq] at p2; exact p2.elim
      | .d .non, _, p2 => exact p2.elim
      | .d (.bl _), _, p2 => exact p2.elim
      | .d (.str _), _, p2 => exact p2.elim
      | .d (.tup _), _, p2 => exact p2.elim
      | .d (.lst _), _, p2 => exact p2.elim
      | .d (.scr _), _, p2 => exact p2.elim
      | .loc _, _, p2 => exact p2.elim
    · intro acc tA cc H h
      obtain ⟨acc', ⟨tA', cc', h1⟩, h2⟩ := hend (fun (acc : Int) (xp : List (Addr × Obj)) => ∃ tA cc, xp = [(s5.heap.objs.size, sumO acc tA cc)]) _ _ h
      injection h1 with h1 _
      injection h1 with _ h1
      rw [sumO_inj h1]
      exact h2 _ rfl
end
end Pc
set_option Elab.async false
set_option linter.all false
set_option maxRecDepth 100000
set_option autoImplicit false
set_option maxHeartbeats 1000000
/-! PcC0: constants of the module -/
namespace Pc
open PySem PySem.Spec PyProof.Rows L2
mutual
/-- u is the datum d, in K -/
def datB (K : PySem.W.Frag) : D → Value → Bool
  | .non, .none => true
  | .bl b, .bool c => b == c
  | .int i, .int j _ => decide (i = j)
  | .str x, .str y _ => decide (x = y)
  | .tup ds, .ref a => match K.lookup a with
    | some ⟨.type c, _, .seq its _, _⟩ => decide (c = "tuple") && (decide (its.size ≤ sizeLine) && datsB K ds its.toList)
    | _ => false
  | _, _ => false
def datsB (K : PySem.W.Frag) : List D → List Value → Bool
  | [], [] => true
  | d :: ds, v :: vs => datB K d v && datsB K ds vs
  | _, _ => false
end
mutual
theorem datB_ok {K : PySem.W.Frag} : ∀ (d : D) (u : Value), datB K d u = true → ∃ v, RelV v u ∧ ∀ g, RD K g d v
  | .non, .none, _ => ⟨.non, rfl, fun _ => rfl⟩
  | .bl b, .bool c, h => ⟨.bl b, (by
      have : b = c := by simpa [datB] using h
      rw [this]; rfl), fun _ => rfl⟩
  | .int i, .int j t, h => ⟨.int i, (by
      have : i = j := by simpa [datB] using h
      rw [this]; exact ⟨t, rfl⟩), fun _ => rfl⟩
  | .str x, .str y t, h => ⟨.str x, (by
      have : x = y := by simpa [datB] using h
      rw [this]; exact ⟨t, rfl⟩), fun _ => rfl⟩
  | .tup ds, .ref a, h => by
    simp only [datB] at h
    split at h
    · rename_i c od its n sl q
      simp only [Bool.and_eq_true, decide_eq_true_eq] at h
      obtain ⟨h1, h2, h3⟩ := h
      obtain ⟨vs, r1, r2⟩ := datsB_ok ds _ h3
      exact ⟨.ref a, rfl, fun g => ⟨a, vs, rfl, .inr ⟨_, its, n, q, congrArg Value.type h1, rfl, h2, r1⟩, r2 g⟩⟩
    · cases h
  | .non, .bool _, h => by simp [datB] at h
  | .lst _, _, h => by simp [datB] at h
  | .scr _, _, h => by simp [datB] at h
theorem datsB_ok {K : PySem.W.Frag} : ∀ (ds : List D) (us : List Value), datsB K ds us = true → ∃ vs, Vals vs us ∧ ∀ g, RDs K g ds vs
  | [], [], _ => ⟨[], .nil, fun _ => rfl⟩
  | d :: ds, u :: us, h => by
    simp only [datsB, Bool.and_eq_true] at h
    obtain ⟨v, r1, r2⟩ := datB_ok d u h.1
    obtain ⟨vs, r3, r4⟩ := datsB_ok ds us h.2
    exact ⟨v :: vs, .cons r1 r3, fun g => ⟨v, vs, rfl, r2 g, r4 g⟩⟩
  | [], _ :: _, h => by simp [datsB] at h
  | _ :: _, [], h => by simp [datsB] at h
end
end Pc
set_option Elab.async false
set_option linter.all false
set_option maxRecDepth 100000
set_option autoImplicit false
set_option maxHeartbeats 1000000
/-! PcC1: from the text to the code -/
namespace Pc
open PySem PySem.Spec PyProof.Rows L2

structure CC where
  N : List Str
  sc : Scope
  fns : List (Str × Nat)
  gl : List (Str × D)
  bs : List Str
  gc : Bool
  gx : Bool
  top : Bool
  mu : List Str
  rm : Bool
abbrev CC.kd (cc : CC) (x : Str) : Option NameKind := cc.sc.names.lookup x
def okName (x : Str) : Bool := !(x == ("__debug__" : Str)) && !(x == ("__classdict__" : Str))
def slotOf (cc : CC) (x : Str) : Option Nat := match cc.kd x with
  | some .local | some .cell | some .free => if cc.N[cc.N.idxOf x]? = some x ∧ okName x = true then some (cc.N.idxOf x) else none
  | _ => none
def stoOf (cc : CC) (x : Str) : Option Nat := match cc.kd x with
  | some .local => if cc.N[cc.N.idxOf x]? = some x then some (cc.N.idxOf x) else none
  | some .cell => if cc.top = true ∧ cc.N[cc.N.idxOf x]? = some x then some (cc.N.idxOf x) else none
  | _ => none
def constOf (cc : CC) (x : Str) : Option D := match cc.kd x with
  | some .globalImplicit => if okName x = true then cc.gl.lookup x else none
  | _ => none
def unbop : Operator → Option BOp
  | .Add => some .add | .Sub => some .sub | .Mult => some .mul | .FloorDiv => some .fdiv | .Mod => some .mod | .Pow => some .pow
  | _ => none
theorem unbop_ok {o : Operator} {b : BOp} (h : unbop o = some b) : o = bop b := by
  cases o <;> cases h <;> rfl
def uncop : CmpOp → COp
  | .Eq => .eq | .NotEq => .ne | .Lt => .lt | .LtE => .le | .Gt => .gt | .GtE => .ge | .Is => .is | .IsNot => .nis | .In => .inn | .NotIn => .nin
theorem uncop_ok (o : CmpOp) : o = cop (uncop o) := by cases o <;> rfl
def tstOk : Expr → Bool
  | .IfExp _ _ _ _ => false
  | _ => true
def isComp : Expr → Bool
  | .ListComp _ _ _ _ | .SetComp _ _ _ _ | .DictComp _ _ _ _ _ => true
  | _ => false
def mapsE (f : Expr → Option E) : List Expr → Option (List E)
  | [] => some []
  | e :: es => match f e, mapsE f es with
    | some c, some cs => some (c :: cs)
    | _, _ => none
def boolE (f : Expr → Option E) (op : BoolOp) : List Expr → Option E
  | [] => none
  | [a] => if tstOk a then f a else none
  | a :: b :: rest => if tstOk a then (match f a, boolE f op (b :: rest) with
      | some ca, some cr => some (match op with | .And => .and ca cr | .Or => .or ca cr)
      | _, _ => none) else none
def partE (f : Expr → Option E) : Option Expr → Option E
  | none => some .nopart
  | some e => match f e with
    | some .nopart => none
    | r => r
def isSet : Expr → Bool
  | .Set _ _ _ => true
  | _ => false
def isLst : Expr → Bool
  | .List _ _ => true
  | _ => false
def rngOk (cc : CC) (r : Str) : Bool := decide (r = "range") && decide (cc.kd r = some .globalImplicit) && decide (("range" : Str) ∈ cc.bs)
def rngA : Expr → Option (Str × List Expr)
  | .Call (.Name r _) as [] _ => some (r, as)
  | _ => none
def iterE (f : Expr → Option E) (cc : CC) (iter : Expr) : Option (Ik × List E) := match rngA iter with
  | some (r, [a]) => if rngOk cc r then (if noStar a then (match f a with
    | some ca => some (.rng1, [ca])
    | none => none) else none) else (match f iter with
      | some c => some (.seq, [c])
      | none => none)
  | some (r, [a, b]) => if rngOk cc r then (if noStar a && noStar b then (match f a, f b with
    | some ca, some cb => some (.rng2, [ca, cb])
    | _, _ => none) else none) else (match f iter with
      | some c => some (.seq, [c])
      | none => none)
  | _ => if isSet iter then none else match f iter with
    | some c => some (.seq, [c])
    | none => none
def namesE (cc : CC) : List Expr → Option (List Nat)
  | [] => some []
  | .Name x _ :: es => match stoOf cc x, namesE cc es with
    | some i, some is => some (i :: is)
    | _, _ => none
  | _ => none
def tgE (cc : CC) : Expr → Option Tg
  | .Name x _ => (stoOf cc x).map .nm
  | .Tuple es _ _ => (namesE cc es).map .tup
  | _ => none
def ownOf (N : List Str) (scope : Scope) : List (Str × Nat) := scope.names.filterMap fun y => match y.2 with
  | .local | .cell => if y.1 ∈ N then some (y.1, N.idxOf y.1) else none
  | _ => none
def ifsE (f : Expr → Option E) : List Expr → Option (List E)
  | [] => some []
  | [e] => if tstOk e then (f e).map ([·]) else none
  | _ => none
def subT (t : Tg) (own : List (Str × Nat)) : Bool := (tgs t).all fun i => decide (i ∈ own.map (·.2))
abbrev Rec := CC → Bool → Expr → Option E
def blkCC (cc : CC) (scope : Scope) : CC := { cc with sc := relS scope cc.sc, top := false }
def gxCC (cc : CC) (scope : Scope) : CC := { cc with sc := scope, gx := false, top := false }
def lcE (f : Rec) (cc : CC) (m : Bool) (elt tg iter : Expr) (ifs : List Expr) (scope : Scope) : Option E :=
  if blkC cc.N cc.sc scope (ownOf cc.N scope) then
    match iterE (f cc false) cc iter, tgE (blkCC cc scope) tg, ifsE (f (blkCC cc scope) false) ifs, f (blkCC cc scope) false elt with
    | some (k, is), some t, some cc', some ce => if subT t (ownOf cc.N scope) then some (.lc m t k is cc' ce ((ownOf cc.N scope).map (·.2))) else none
    | _, _, _, _ => none
  else none
def gkOf (x : Str) : Option Gk := if x = gkN .all then some .all else if x = gkN .any then some .any else if x = gkN .sum then some .sum else none
def gxE (f : Rec) (cc : CC) (g : Gk) (elt tg iter : Expr) (scope : Scope) : Option E :=
  if gxC cc.N cc.sc scope (ownOf cc.N scope) && cc.gx && decide (gkN g ∈ cc.bs) && !isLst iter then
    match iterE (f cc false) cc iter, tgE (gxCC cc scope) tg, f (gxCC cc scope) false elt with
    | some (k, is), some t, some ce => if subT t (ownOf cc.N scope) then some (.gx g t k is ce ((ownOf cc.N scope).map (·.2))) else none
    | _, _, _ => none
  else none
def allBi : List Bi := [.len, .abs, .min, .max, .sum, .int, .tuple, .list, .sorted]
def biOf (x : Str) : Option Bi := allBi.find? fun b => decide ((biV b).1 = x)
def tyOf (x : Str) : Option Ty := [Ty.int, .bool, .str, .tuple, .list].find? fun t => decide (tyS t = x)
def genOf : List Expr → Option (Expr × Expr × Expr × Scope)
  | [.GeneratorExp elt [⟨tg, iter, [], 0⟩] scope _] => some (elt, tg, iter, scope)
  | _ => none
def isiOf : List Expr → Option (Expr × Str)
  | [e, .Name t _] => some (e, t)
  | _ => none
def plainCall (f : Rec) (cc : CC) (x : Str) (es : List Expr) : Option E := match biOf x with
  | some b => if x ∈ cc.bs then (mapsE (f cc false) es).map (.bi b) else none
  | none => none
def nameE (f : Rec) (cc : CC) (m : Bool) (x : Str) (args : List Expr) : Option E :=
  if cc.kd x = some .globalImplicit ∧ okName x = true then
    match genOf args with
    | some (elt, tg, iter, scope) => (match gkOf x with
      | some g => gxE f cc g elt tg iter scope
      | none => none)
    | none => if args ≠ [] ∧ args.all noStar = true then (match cc.fns.lookup x with
      | some i => (mapsE (f cc false) args).map (.call m i)
      | none => if x = "isinstance" then (match isiOf args with
          | some (e, t) => (match tyOf t, f cc false e with
            | some ty, some ce => if ("isinstance" : Str) ∈ cc.bs ∧ tyS ty ∈ cc.bs ∧ cc.kd (tyS ty) = some .globalImplicit then some (.bi (.isinst ty) [ce]) else none
            | _, _ => none)
          | none => none)
        else if x = "gcd" then (if cc.gc = true then (mapsE (f cc false) args).map (.bi .gcd) else none)
        else plainCall f cc x args) else none
  else none
def methE (f : Rec) (cc : CC) (o : Expr) (a : Str) (args : List Expr) : Option E :=
  if noSup o = true ∧ args.all noStar = true then
    (if a = "append" then (match args with
      | [e] => (match f cc false o, f cc false e with
        | some co, some ce => some (.bm .append co [ce])
        | _, _ => none)
      | _ => none)
    else if a = "sort" then (match args with
      | [] => (match f cc false o with
        | some co => some (.bm .sort co [])
        | none => none)
      | _ => none)
    else if a = "get" then (match args with
      | [e] => (match f cc false o, f cc false e with
        | some co, some ce => some (.bm .get co [ce])
        | _, _ => none)
      | [e, d] => (match f cc false o, f cc false e, f cc false d with
        | some co, some ce, some cd => some (.bm .get co [ce, cd])
        | _, _, _ => none)
      | _ => none)
    else none)
  else none
def stepE (f : Rec) (cc : CC) (m : Bool) : Expr → Option E
  | .Constant (.int i) _ _ => some (.k (.int i))
  | .Constant (.str s) _ _ => some (.k (.str s))
  | .Constant (.bool b) _ _ => some (.k (.bl b))
  | .Constant .none _ _ => some (.k .non)
  | .Name x _ => (match slotOf cc x with
    | some i => some (.var i)
    | none => (constOf cc x).map .k)
  | .BinOp a op b _ => (match unbop op, f cc false a, f cc false b with
    | some o, some ca, some cb => some (.bin o ca cb)
    | _, _, _ => none)
  | .UnaryOp .USub a _ => (f cc false a).map .neg
  | .UnaryOp .Not a _ => if tstOk a then (f cc false a).map .not else none
  | .BoolOp op vs _ => boolE (f cc false) op vs
  | .Compare a [o] [b] _ => if behindInMarks o b = false then (match f cc false a, f cc false b with
    | some ca, some cb => some (.cmp (uncop o) ca cb)
    | _, _ => none) else none
  | .Compare a [o, o'] [b, d] _ => if lastMarks [o, o'] [b, d] = false then (match f cc false a, f cc false b, f cc false d with
    | some ca, some cb, some cd => some (.chn (uncop o) (uncop o') ca cb cd)
    | _, _, _ => none) else none
  | .IfExp t a b _ => if tstOk t then (match f cc false t, f cc m a, f cc m b with
    | some ct, some ca, some cb => some (.ife ct ca cb)
    | _, _, _ => none) else none
  | .Tuple es _ _ => if es.all noStar = true ∧ es.length ≤ maxLen then (mapsE (f cc false) es).map .tup else none
  | .List es _ => if es.all noStar = true ∧ es.length ≤ maxLen then (mapsE (f cc false) es).map (.lst m) else none
  | .Dict [] [] _ => some (.dct [] [])
  | .Dict keys vs _ => if keys.length = vs.length ∧ keys ≠ [] ∧ keys.length ≤ 15 then (match keysE keys, mapsE (f cc false) vs with
    | some ks, some ces => some (.dct ks ces)
    | _, _ => none) else none
  | .Subscript a (.Slice lo hi none _) _ => (match f cc false a, partE (f cc false) lo, partE (f cc false) hi with
    | some ca, some cl, some ch => some (.sl ca cl ch)
    | _, _, _ => none)
  | .Subscript a b _ => if noSlice b then (match f cc false a, f cc false b with
    | some ca, some cb => some (.ix ca cb)
    | _, _ => none) else none
  | .Call (.Name x _) args [] _ => nameE f cc m x args
  | .Call (.Attribute o a apos) args [] pos => if (apos.endLine == pos.line) = true then methE f cc o a args else none
  | .ListComp elt [⟨tg, iter, ifs, 0⟩] scope _ => lcE f cc m elt tg iter ifs scope
  | _ => none
def compE : Nat → Rec
  | 0, _, _, _ => none
  | n + 1, cc, m, e => stepE (compE n) cc m e
/-! ### statements -/
def noTup : Expr → Bool
  | .Tuple _ _ _ => false
  | _ => true
def mutT (cc : CC) : Expr → Bool
  | .Name x _ => decide (x ∈ cc.mu)
  | _ => false
def asgE (f : Rec) (cc : CC) (tg e : Expr) : Option C :=
  if isComp e = false ∧ (noTup tg || noTup e) = true then
    (match tg with
    | .Subscript o i _ => if noSlice i = true then (match f cc false e, f cc false o, f cc false i with
      | some ce, some co, some ci => some (.setix co ci ce)
      | _, _, _ => none) else none
    | tg => (match tgE cc tg, f cc (mutT cc tg) e with
      | some t, some ce => some (.asg t ce)
      | _, _ => none))
  else none
mutual
def compS (f : Rec) (cc : CC) : Stmt → Option C
  | .Pass _ => some .pass
  | .Break _ => some .brk
  | .Continue _ => some .cont
  | .Expr e _ => if isComp e = false then (f cc false e).map .ex else none
  | .Return none _ => some (.ret (.k .non))
  | .Return (some e) _ => (f cc cc.rm e).map .ret
  | .Assign [tg] e _ => asgE f cc tg e
  | .AugAssign (.Name x _) op e _ => (match unbop op, stoOf cc x, f cc false e with
    | some o, some i, some ce => some (.aug o i ce)
    | _, _, _ => none)
  | .If t a b _ => if tstOk t then (match f cc false t, compSs f cc a, compSs f cc b with
    | some ct, some ca, some cb => some (.ifs ct ca cb)
    | _, _, _ => none) else none
  | .While t a [] _ => if tstOk t then (match f cc false t, compSs f cc a with
    | some ct, some ca => some (.whil ct ca)
    | _, _ => none) else none
  | .For tg iter a [] _ => (match iterE (f cc false) cc iter, tgE cc tg, compSs f cc a with
    | some (k, is), some t, some ca => some (.forr t k is ca)
    | _, _, _ => none)
  | _ => none
def compSs (f : Rec) (cc : CC) : List Stmt → Option (List C)
  | [] => some []
  | s :: ss => match compS f cc s, compSs f cc ss with
    | some c, some cs => some (c :: cs)
    | _, _ => none
end
end Pc
set_option Elab.async false
set_option linter.all false
set_option maxRecDepth 100000
set_option autoImplicit false
set_option maxHeartbeats 1000000
/-! PcC2: what the compiled code says, it says of the text -/
namespace Pc
open PySem PySem.Spec PyProof.Rows L2

structure COk (c : Cfg) (cl : Call) (kF : Nat) (cc : CC) (X : Cx) (Wx : WX) : Prop where
  K : X.K = c.K
  N : X.N = cc.N
  nd : cc.N.Nodup
  sc : X.env.scope = cc.sc
  fn : cc.top = true → ∀ x, X.fn x = true
  calm : X.calm = true
  room : Room (kF + if cc.gx then 1 else 0) X.A
  tk : Takes X Wx
  own : PassesOwn (model X.prog X.w) X.A X.env X.xe
  bs : ∀ x ∈ cc.bs, X.mg x = none
  gcd : cc.gc = true → X.mg "gcd" = some (.builtin "math.gcd")
  gl : ∀ x d, cc.gl.lookup x = some d → ∃ u v, X.mg x = some u ∧ RelV v u ∧ ∀ g, RD c.K g d v
  fns : ∀ x i, cc.fns.lookup x = some i → ∃ a fd ps, X.mg x = some (.ref a) ∧ PySem.W.keepIn X.K (.ref a) = true ∧ Binds X.K fd ps [] ∧ FnOk X.prog X.w X.K X.mg X.base (CX X.prog X.w) kF a fd ps (spF c cl i)
  tab : cc.gx = true → ∃ cA P, GxR.TabB X.base X.mg cA P ∧ X.env.code = .ref cA ∧ P ∈ c.T

section
variable {c : Cfg} {cl : Call} {kF : Nat} {cc : CC} {X : Cx} {Wx : WX}
theorem COk.roomF (O : COk c cl kF cc X Wx) : Room kF X.A := O.room.mono (Nat.le_add_right _ _)
theorem COk.units (O : COk c cl kF cc X Wx) : X.A.units + 64 < cLine := O.room.units
theorem COk.isGl (O : COk c cl kF cc X Wx) {x : Str} (h : cc.kd x = some .globalImplicit) : Gl X x := by
  show X.env.scope.names.lookup x = _
  rw [O.sc]; exact h
theorem COk.nm (O : COk c cl kF cc X Wx) {x : Str} {i : Nat} (h : slotOf cc x = some i) : X.N[i]? = some x ∧ Vis X.env.scope x ∧ (x == ("__debug__" : Str)) = false ∧ (x == ("__classdict__" : Str)) = false := by
  unfold slotOf at h
  have key : ∀ {k : NameKind}, cc.kd x = some k → (if cc.N[cc.N.idxOf x]? = some x ∧ okName x = true then some (cc.N.idxOf x) else none) = some i → X.N[i]? = some x ∧ (x == ("__debug__" : Str)) = false ∧ (x == ("__classdict__" : Str)) = false := fun {k} hk h => by
    by_cases q : cc.N[cc.N.idxOf x]? = some x ∧ okName x = true
    · rw [if_pos q] at h
      cases h
      have q2 := q.2
      simp only [okName, Bool.and_eq_true, Bool.not_eq_true'] at q2
      exact ⟨by rw [O.N]; exact q.1, q2.1, q2.2⟩
    · rw [if_neg q] at h; cases h
  have vis : ∀ {k : NameKind}, cc.kd x = some k → X.env.scope.names.lookup x = some k := fun hk => by rw [O.sc]; exact hk
  split at h
  · rename_i hk
    obtain ⟨a, b, d⟩ := key hk h
    exact ⟨a, .inl (vis hk), b, d⟩
  · rename_i hk
    obtain ⟨a, b, d⟩ := key hk h
    exact ⟨a, .inr (.inl (vis hk)), b, d⟩
  · rename_i hk
    obtain ⟨a, b, d⟩ := key hk h
    exact ⟨a, .inr (.inr (vis hk)), b, d⟩
  · cases h
theorem COk.sto (O : COk c cl kF cc X Wx) {x : Str} {i : Nat} (h : stoOf cc x = some i) : StoN X x i := by
  unfold stoOf at h
  have vis : ∀ {k : NameKind}, cc.kd x = some k → X.env.scope.names.lookup x = some k := fun hk => by rw [O.sc]; exact hk
  split at h
  · rename_i hk
    by_cases q : cc.N[cc.N.idxOf x]? = some x
    · rw [if_pos q] at h
      cases h
      exact ⟨by rw [O.N]; exact O.nd, by rw [O.N]; exact q, .inl (vis hk), .inr (vis hk)⟩
    · rw [if_neg q] at h; cases h
  · rename_i hk
    by_cases q : cc.top = true ∧ cc.N[cc.N.idxOf x]? = some x
    · rw [if_pos q] at h
      cases h
      exact ⟨by rw [O.N]; exact O.nd, by rw [O.N]; exact q.2, .inr (vis hk), .inl (O.fn q.1 x)⟩
    · rw [if_neg q] at h; cases h
  · cases h
theorem COk.stos (O : COk c cl kF cc X Wx) : ∀ {es : List Expr} {is : List Nat}, namesE cc es = some is → StoNs X es is
  | [], is, h => by cases h; exact .nil
  | e :: es, is, h => by
    unfold namesE at h
    split at h
    · cases h; rename_i q; cases q
    · rename_i x pos es' q
      cases q
      split at h
      · rename_i i is' h1 h2
        cases h
        exact .cons (O.sto h1) (O.stos h2)
      · cases h
    · cases h
theorem COk.tg (O : COk c cl kF cc X Wx) {e : Expr} {t : Tg} (h : tgE cc e = some t) : TgOk c X e t := by
  unfold tgE at h
  split at h
  · rename_i x pos
    cases q : stoOf cc x with
    | none => rw [q] at h; cases h
    | some i => rw [q] at h; cases h; exact tg_nm (O.sto q)
  · rename_i es k pos
    cases q : namesE cc es with
    | none => rw [q] at h; cases h
    | some i => rw [q] at h; cases h; exact tg_tup O.calm O.K (O.stos q)
  · cases h
/-- a list comprehension's block -/
theorem COk.blk (O : COk c cl kF cc X Wx) (scope : Scope) (s : Shared) (H : Hp) (C : Addr) (cl' : List (Str × Addr)) (fp : List Addr) : COk c cl kF (blkCC cc scope) (X.blk s H scope (compEnvC scope cl' C X.env) fp) Wx0 where
  K := O.K
  N := O.N
  nd := O.nd
  sc := by
    show relabel scope X.env = relS scope cc.sc
    rw [← O.sc]
    rfl
  fn := fun h => by cases h
  calm := O.calm
  room := O.room
  tk := takes0' _
  own := PassesOwn.never
  bs := O.bs
  gcd := O.gcd
  gl := O.gl
  fns := O.fns
  tab := O.tab
/-- a generator expression's -/
theorem COk.gen (O : COk c cl kF cc X Wx) (hg : cc.gx = true) (scope : Scope) (s : Shared) (H : Hp) (code : Value) (fp : List Addr) : COk c cl kF (gxCC cc scope) (gxCx X s H scope (gxEnv X scope s.heap.objs.size code) fp) Wx0 where
  K := O.K
  N := O.N
  nd := O.nd
  sc := rfl
  fn := fun h => by cases h
  calm := O.calm
  room := by
    have r := O.room
    rw [hg] at r
    have hd := r.hd
    have dp := r.dp
    have un := r.un
    refine ⟨hd, ?_, ?_⟩
    · show X.A.depth + 1 + 3 * (kF + 0) + 5 < _
      have dp : X.A.depth + 3 * (kF + 1) + 5 < recursionLimit := dp
      omega
    · show X.A.units + 1 + 1 + 3 + 16 * (kF + 0) + 200 < _
      have un : X.A.units + 16 * (kF + 1) + 200 < cLine := un
      omega
  tk := takes0' _
  own := PassesOwn.never
  bs := O.bs
  gcd := O.gcd
  gl := O.gl
  fns := O.fns
  tab := fun h => by cases h
end
/-- the compiler tells the truth -/
def Good (c : Cfg) (cl : Call) (kF : Nat) (f : Rec) : Prop := ∀ cc X Wx, COk c cl kF cc X Wx → ∀ m e ce, f cc m e = some ce → SE c cl X Wx e ce ∧ (tstOk e = true → ST c cl X Wx e ce)
section
variable {c : Cfg} {cl : Call} {kF : Nat} {cc : CC} {X : Cx} {Wx : WX} {f : Expr → Option E}
theorem mapsE_ok (hf : ∀ e ce, f e = some ce → SE c cl X Wx e ce) : ∀ {es : List Expr} {ces : List E}, mapsE f es = some ces → SEz c cl X Wx es ces ∧ ces.length = es.length
  | [], ces, h => by cases h; exact ⟨.nil, rfl⟩
  | e :: es, ces, h => by
    unfold mapsE at h
    split at h
    · rename_i a b h1 h2
      cases h
      obtain ⟨q1, q2⟩ := mapsE_ok hf h2
      exact ⟨.cons (hf _ _ h1) q1, by rw [List.length_cons, List.length_cons, q2]⟩
    · cases h
theorem se_bool1 {a : Expr} {ca : E} {op : BoolOp} {pos : Pos} (ha : SE c cl X Wx a ca) : SE c cl X Wx (.BoolOp op [a] pos) ca := fun g S σ env Q R ev p pins s I => ha g S σ env Q R ev p pins s I
theorem boolE_ok {op : BoolOp} {pos : Pos} (hK : X.K = c.K) (hf : ∀ e ce, f e = some ce → SE c cl X Wx e ce ∧ (tstOk e = true → ST c cl X Wx e ce)) : ∀ {es : List Expr} {ce : E}, boolE f op es = some ce → SE c cl X Wx (.BoolOp op es pos) ce ∧ SW c cl X Wx (.BoolOp op es pos) ce
  | [], ce, h => by cases h
  | [a], ce, h => by
    unfold boolE at h
    by_cases ht : tstOk a = true
    · rw [if_pos ht] at h
      obtain ⟨h1, h2⟩ := hf _ _ h
      exact ⟨se_bool1 h1, sw_one op (h2 ht)⟩
    · rw [if_neg ht] at h; cases h
  | a :: b :: rest, ce, h => by
    unfold boolE at h
    by_cases ht : tstOk a = true
    · rw [if_pos ht] at h
      split at h
      · rename_i ca cr h1 h2
        obtain ⟨a1, a2⟩ := hf _ _ h1
        obtain ⟨b1, b2⟩ := boolE_ok hK hf h2
        cases op with
        | And => cases h; exact ⟨se_and hK a1 b1, sw_and (a2 ht) b2⟩
        | Or => cases h; exact ⟨se_or hK a1 b1, sw_or (a2 ht) b2⟩
      · cases h
    · rw [if_neg ht] at h; cases h
theorem partE_ok (hf : ∀ e ce, f e = some ce → SE c cl X Wx e ce) {o : Option Expr} {ce : E} (h : partE f o = some ce) : SO c cl X Wx o ce := by
  unfold partE at h
  cases o with
  | none => cases h; rfl
  | some e =>
    dsimp only at h
    split at h
    · cases h
    · rename_i r hr
      refine ⟨fun z => hr (by rw [z] at h; exact h), hf _ _ h⟩
theorem rngA_ok {iter : Expr} {r : Str} {as : List Expr} (h : rngA iter = some (r, as)) : ∃ p1 p2, iter = .Call (.Name r p1) as [] p2 := by
  unfold rngA at h
  split at h
  · cases h; exact ⟨_, _, rfl⟩
  · cases h
theorem rngOk_ok {r : Str} (h : rngOk cc r = true) : r = "range" ∧ cc.kd "range" = some .globalImplicit ∧ ("range" : Str) ∈ cc.bs := by
  unfold rngOk at h
  simp only [Bool.and_eq_true, decide_eq_true_eq] at h
  obtain ⟨⟨rfl, h2⟩, h3⟩ := h
  exact ⟨rfl, h2, h3⟩
theorem iterE_ok (O : COk c cl kF cc X Wx) (tg : Expr) (hf : ∀ e ce, f e = some ce → SE c cl X Wx e ce) {iter : Expr} {k : Ik} {is : List E} (h : iterE f cc iter = some (k, is)) : SI c cl X Wx tg iter k is ∧ isSet iter = false := by
  have seq : ∀ {cs : E}, f iter = some cs → SI c cl X Wx tg iter .seq [cs] := fun h1 => fun β g S σ env P ff R ev p => wi_seq O.K (hf _ _ h1) P R ev p
  unfold iterE at h
  split at h
  · rename_i r a ha
    obtain ⟨p1, p2, rfl⟩ := rngA_ok ha
    by_cases hr : rngOk cc r = true
    · rw [if_pos hr] at h
      obtain ⟨rfl, q1, q2⟩ := rngOk_ok hr
      by_cases hs : noStar a = true
      · rw [if_pos hs] at h
        split at h
        · rename_i ca h1
          cases h
          exact ⟨fun β g S σ env P ff R ev p => wi_rng1 (O.isGl q1) (O.bs _ q2) hs (ses_cons hs (hf _ _ h1) ses_nil) P R ev p, rfl⟩
        · cases h
      · rw [if_neg hs] at h; cases h
    · rw [if_neg hr] at h
      split at h
      · rename_i c1 h1; cases h; exact ⟨seq h1, rfl⟩
      · cases h
  · rename_i r a b ha
    obtain ⟨p1, p2, rfl⟩ := rngA_ok ha
    by_cases hr : rngOk cc r = true
    · rw [if_pos hr] at h
      obtain ⟨rfl, q1, q2⟩ := rngOk_ok hr
      by_cases hs : (noStar a && noStar b) = true
      · rw [if_pos hs] at h
        obtain ⟨s1, s2⟩ := Bool.and_eq_true_iff.mp hs
        split at h
        · rename_i ca cb h1 h2
          cases h
          exact ⟨fun β g S σ env P ff R ev p => wi_rng2 (O.isGl q1) (O.bs _ q2) s1 s2 (ses_cons s1 (hf _ _ h1) (ses_cons s2 (hf _ _ h2) ses_nil)) P R ev p, rfl⟩
        · cases h
      · rw [if_neg hs] at h; cases h
    · rw [if_neg hr] at h
      split at h
      · rename_i c1 h1; cases h; exact ⟨seq h1, rfl⟩
      · cases h
  · by_cases hs : isSet iter = true
    · rw [if_pos hs] at h; cases h
    · rw [if_neg hs] at h
      split at h
      · rename_i c1 h1; cases h; exact ⟨seq h1, by simpa using hs⟩
      · cases h
theorem fold_of {iter : Expr} (h : isSet iter = false) (env : PySem.Env) : ∀ x, foldedSetIterable iter env x = pure x := fun x => by
  cases iter <;> first | rfl | cases h
theorem gfold_of {iter : Expr} (h : isSet iter = false) (h2 : isLst iter = false) (env : PySem.Env) : ∀ x, genFold iter env x = pure x := fun x => by
  cases iter <;> first | rfl | (exact absurd h Bool.noConfusion) | (exact absurd h2 Bool.noConfusion)
theorem subT_ok {t : Tg} {own : List (Str × Nat)} (h : subT t own = true) : ∀ i ∈ tgs t, i ∈ own.map (·.2) := fun i hi => by
  unfold subT at h
  exact of_decide_eq_true (List.all_eq_true.mp h i hi)
end
section
variable {c : Cfg} {cl : Call} {kF : Nat} {cc : CC} {X : Cx} {Wx : WX} {f : Rec}
theorem lcE_ok (O : COk c cl kF cc X Wx) (G : Good c cl kF f) {m : Bool} {elt tg iter : Expr} {ifs : List Expr} {scope : Scope} {pos : Pos} {ce : E} (h : lcE f cc m elt tg iter ifs scope = some ce) : SE c cl X Wx (.ListComp elt [⟨tg, iter, ifs, 0⟩] scope pos) ce := by
  unfold lcE at h
  by_cases hb : blkC cc.N cc.sc scope (ownOf cc.N scope) = true
  · rw [if_pos hb] at h
    split at h
    · rename_i k is t cc' ce' h1 h2 h3 h4
      by_cases hs : subT t (ownOf cc.N scope) = true
      · rw [if_pos hs] at h
        cases h
        obtain ⟨i1, i2⟩ := iterE_ok O tg (fun e ce h => (G _ _ _ O _ _ _ h).1) h1
        have B := O.blk scope
        refine se_lc O.calm (by rw [O.N]; exact O.nd) i1 (by rw [O.N, O.sc]; exact blkOk_by hb) (fun s H C cl' fp => (B s H C cl' fp).tg h2) (fun s H C cl' fp => ?_) (fun s H C cl' fp => (G _ _ _ (B s H C cl' fp) _ _ _ h4).1) (subT_ok hs) (fold_of i2 _)
        unfold ifsE at h3
        split at h3
        · cases h3; exact sts_nil
        · rename_i e
          by_cases ht : tstOk e = true
          · rw [if_pos ht] at h3
            cases q : f (blkCC cc scope) false e with
            | none => rw [q] at h3; cases h3
            | some x => rw [q] at h3; cases h3; exact sts_one ((G _ _ _ (B s H C cl' fp) _ _ _ q).2 ht)
          · rw [if_neg ht] at h3; cases h3
        · cases h3
      · rw [if_neg hs] at h; cases h
    · cases h
  · rw [if_neg hb] at h; cases h
theorem gxE_ok (O : COk c cl kF cc X Wx) (G : Good c cl kF f) {gk : Gk} {elt tg iter : Expr} {scope : Scope} {p gpos pos : Pos} {ce : E} (hk : cc.kd (gkN gk) = some .globalImplicit) (h : gxE f cc gk elt tg iter scope = some ce) :
    SE c cl X Wx (.Call (.Name (gkN gk) p) [.GeneratorExp elt [⟨tg, iter, [], 0⟩] scope gpos] [] pos) ce := by
  unfold gxE at h
  by_cases hb : (gxC cc.N cc.sc scope (ownOf cc.N scope) && cc.gx && decide (gkN gk ∈ cc.bs) && !isLst iter) = true
  · rw [if_pos hb] at h
    simp only [Bool.and_eq_true, decide_eq_true_eq, Bool.not_eq_true'] at hb
    obtain ⟨⟨⟨b1, b2⟩, b3⟩, b4⟩ := hb
    split at h
    · rename_i k is t ce' h1 h2 h4
      by_cases hs : subT t (ownOf cc.N scope) = true
      · rw [if_pos hs] at h
        cases h
        obtain ⟨i1, i2⟩ := iterE_ok O tg (fun e ce h => (G _ _ _ O _ _ _ h).1) h1
        have B := O.gen b2 scope
        obtain ⟨cA, P, t1, t2, t3⟩ := O.tab b2
        exact se_gx O.calm (by rw [O.N]; exact O.nd) O.room (O.isGl hk) (O.bs _ b3) t1 t2 t3 (by rw [O.N, O.sc]; exact gxOk_by b1) (gfold_of i2 b4 _) i1 (fun s H code fp => (B s H code fp).tg h2) (fun s H code fp => (G _ _ _ (B s H code fp) _ _ _ h4).1) (subT_ok hs)
      · rw [if_neg hs] at h; cases h
    · cases h
  · rw [if_neg hb] at h; cases h
theorem genOf_ok {args : List Expr} {elt tg iter : Expr} {scope : Scope} (h : genOf args = some (elt, tg, iter, scope)) : ∃ gpos, args = [.GeneratorExp elt [⟨tg, iter, [], 0⟩] scope gpos] := by
  unfold genOf at h
  split at h
  · cases h; exact ⟨_, rfl⟩
  · cases h
theorem isiOf_ok {args : List Expr} {e : Expr} {t : Str} (h : isiOf args = some (e, t)) : ∃ p, args = [e, .Name t p] := by
  unfold isiOf at h
  split at h
  · cases h; exact ⟨_, rfl⟩
  · cases h
theorem gkOf_ok {x : Str} {g : Gk} (h : gkOf x = some g) : x = gkN g := by
  unfold gkOf at h
  split at h
  · cases h; assumption
  · split at h
    · cases h; assumption
    · split at h
      · cases h; assumption
      · cases h
theorem biOf_ok {x : Str} {b : Bi} (h : biOf x = some b) : (biV b).1 = x ∧ b ≠ .gcd ∧ biX b = [] := by
  unfold biOf at h
  have h1 := List.find?_some h
  have h2 := List.mem_of_find?_eq_some h
  refine ⟨of_decide_eq_true h1, ?_⟩
  unfold allBi at h2
  simp only [List.mem_cons, List.not_mem_nil, or_false] at h2
  rcases h2 with rfl | rfl | rfl | rfl | rfl | rfl | rfl | rfl | rfl <;> exact ⟨fun z => (nomatch z), rfl⟩
theorem tyOf_ok {x : Str} {t : Ty} (h : tyOf x = some t) : tyS t = x := by
  unfold tyOf at h
  have q := List.find?_some h
  simpa using q
theorem map_some {α β : Type} {o : Option α} {g : α → β} {b : β} (h : o.map g = some b) : ∃ a, o = some a ∧ g a = b := by
  cases o with
  | none => cases h
  | some a => exact ⟨a, rfl, Option.some.inj h⟩
theorem nameE_ok (O : COk c cl kF cc X Wx) (G : Good c cl kF f) {m : Bool} {x : Str} {args : List Expr} {p pos : Pos} {ce : E} (h : nameE f cc m x args = some ce) : SE c cl X Wx (.Call (.Name x p) args [] pos) ce := by
  have G1 : ∀ e ce, f cc false e = some ce → SE c cl X Wx e ce := fun e ce h => (G _ _ _ O _ _ _ h).1
  unfold nameE at h
  by_cases hk : cc.kd x = some .globalImplicit ∧ okName x = true
  · rw [if_pos hk] at h
    obtain ⟨hk, hx⟩ := hk
    have hdb : (x == ("__debug__" : Str)) = false := by
      simp only [okName, Bool.and_eq_true, Bool.not_eq_true'] at hx
      exact hx.1
    split at h
    · rename_i elt tg iter scope hg
      obtain ⟨gpos, rfl⟩ := genOf_ok hg
      split at h
      · rename_i g hgk
        have e := gkOf_ok hgk
        subst e
        exact gxE_ok O G hk h
      · cases h
    · by_cases ha : args ≠ [] ∧ args.all noStar = true
      · rw [if_pos ha] at h
        obtain ⟨hne, hst⟩ := ha
        obtain ⟨e, es, rfl⟩ : ∃ e es, args = e :: es := by
          cases args with
          | nil => exact absurd rfl hne
          | cons e es => exact ⟨e, es, rfl⟩
        split at h
        · rename_i i hi
          obtain ⟨ces, h1, rfl⟩ := map_some h
          obtain ⟨q1, _⟩ := mapsE_ok G1 h1
          obtain ⟨a, fd, ps, f1, f2, f3, f4⟩ := O.fns x i hi
          exact se_call O.tk f4 O.roomF (O.isGl hk) f1 f2 f3 hdb hst (q1.ses hst)
        · by_cases hi : x = "isinstance"
          · rw [if_pos hi] at h
            subst hi
            split at h
            · rename_i e0 t0 hq
              obtain ⟨p2, hq2⟩ := isiOf_ok hq
              rw [hq2] at hst ⊢
              split at h
              · rename_i ty ce' h1 h2
                by_cases hb : ("isinstance" : Str) ∈ cc.bs ∧ tyS ty ∈ cc.bs ∧ cc.kd (tyS ty) = some .globalImplicit
                · rw [if_pos hb] at h
                  cases h
                  have e1 := tyOf_ok h1
                  subst e1
                  rw [List.all_cons, Bool.and_eq_true] at hst
                  exact se_isinst O.K O.calm (O.isGl hk) (O.bs _ hb.1) (O.isGl hb.2.2) (O.bs _ hb.2.1) hst.1 (G1 _ _ h2)
                · rw [if_neg hb] at h; cases h
              · cases h
            · cases h
          · rw [if_neg hi] at h
            by_cases hg : x = "gcd"
            · rw [if_pos hg] at h
              subst hg
              by_cases hgc : cc.gc = true
              · rw [if_pos hgc] at h
                obtain ⟨ces, h1, rfl⟩ := map_some h
                obtain ⟨q1, _⟩ := mapsE_ok G1 h1
                exact se_gcd O.K O.calm (O.isGl hk) (O.gcd hgc) hst (q1.ses hst)
              · rw [if_neg hgc] at h; cases h
            · rw [if_neg hg] at h
              unfold plainCall at h
              split at h
              · rename_i b hb
                obtain ⟨e1, e2, e3⟩ := biOf_ok hb
                subst e1
                by_cases hm : (biV b).1 ∈ cc.bs
                · rw [if_pos hm] at h
                  obtain ⟨ces, h1, rfl⟩ := map_some h
                  obtain ⟨q1, _⟩ := mapsE_ok G1 h1
                  exact se_bi O.K O.calm e2 e3 (O.isGl hk) (O.bs _ hm) hst (q1.ses hst)
                · rw [if_neg hm] at h; cases h
              · cases h
      · rw [if_neg ha] at h; cases h
  · rw [if_neg hk] at h; cases h
theorem methE_ok (O : COk c cl kF cc X Wx) (G : Good c cl kF f) {o : Expr} {a : Str} {args : List Expr} {apos pos : Pos} {ce : E} (hl : (apos.endLine == pos.line) = true) (h : methE f cc o a args = some ce) : SE c cl X Wx (.Call (.Attribute o a apos) args [] pos) ce := by
  have G1 : ∀ e ce, f cc false e = some ce → SE c cl X Wx e ce := fun e ce h => (G _ _ _ O _ _ _ h).1
  unfold methE at h
  by_cases hk : noSup o = true ∧ args.all noStar = true
  · rw [if_pos hk] at h
    obtain ⟨ho, hst⟩ := hk
    by_cases h1 : a = "append"
    · rw [if_pos h1] at h
      subst h1
      split at h
      · split at h
        · rename_i q1 q2
          cases h
          rw [List.all_cons, Bool.and_eq_true] at hst
          exact se_append O.K ho hl hst.1 (G1 _ _ q1) (G1 _ _ q2)
        · cases h
      · cases h
    · rw [if_neg h1] at h
      by_cases h2 : a = "sort"
      · rw [if_pos h2] at h
        subst h2
        split at h
        · split at h
          · rename_i q1
            cases h
            exact se_sort O.K ho hl (G1 _ _ q1)
          · cases h
        · cases h
      · rw [if_neg h2] at h
        by_cases h3 : a = "get"
        · rw [if_pos h3] at h
          subst h3
          split at h
          · split at h
            · rename_i q1 q2
              cases h
              rw [List.all_cons, Bool.and_eq_true] at hst
              exact se_get1 O.units ho hl hst.1 (G1 _ _ q1) (G1 _ _ q2)
            · cases h
          · split at h
            · rename_i q1 q2 q3
              cases h
              simp only [List.all_cons, Bool.and_eq_true] at hst
              exact se_get2 O.units ho hl hst.1 hst.2.1 (G1 _ _ q1) (G1 _ _ q2) (G1 _ _ q3)
            · cases h
          · cases h
        · rw [if_neg h3] at h; cases h
  · rw [if_neg hk] at h; cases h
end
end Pc
set_option Elab.async false
set_option linter.all false
set_option maxRecDepth 100000
set_option autoImplicit false
set_option maxHeartbeats 2000000
/-! PcC3: what the compiled code says, it says of the text: expressions, statements -/
namespace Pc
open PySem PySem.Spec PyProof.Rows L2
section
variable {c : Cfg} {cl : Call} {kF : Nat} {cc : CC} {X : Cx} {Wx : WX} {f : Rec}
theorem stepE_ok (G : Good c cl kF f) : Good c cl kF (stepE f) := fun cc X Wx O m e ce h => by
  have G1 : ∀ m e ce, f cc m e = some ce → SE c cl X Wx e ce := fun m e ce h => (G _ _ _ O _ _ _ h).1
  have G2 : ∀ m e ce, f cc m e = some ce → tstOk e = true → ST c cl X Wx e ce := fun m e ce h => (G _ _ _ O _ _ _ h).2
  have pl : ∀ {e ce}, (∀ whole, isTrue e X.env whole = (do let v ← whole; standAt e.pos; holding [v] (truthy v))) → SE c cl X Wx e ce → SE c cl X Wx e ce ∧ (tstOk e = true → ST c cl X Wx e ce) := fun he hs => ⟨hs, fun _ => st_plain O.K he hs⟩
  unfold stepE at h
  split at h
  · cases h; exact pl (fun _ => rfl) (se_k pe_int fun _ => rfl)
  · cases h; exact pl (fun _ => rfl) (se_k pe_str fun _ => rfl)
  · cases h; exact pl (fun _ => rfl) (se_k pe_bl fun _ => rfl)
  · cases h; exact pl (fun _ => rfl) (se_k pe_non fun _ => rfl)
  · rename_i x pos
    refine pl (fun _ => rfl) ?_
    split at h
    · rename_i i hi
      cases h
      obtain ⟨a, b, d, e⟩ := O.nm hi
      exact se_var a b d e
    · obtain ⟨d, hd, rfl⟩ := map_some h
      unfold constOf at hd
      split at hd
      · rename_i hk
        by_cases ho : okName x = true
        · rw [if_pos ho] at hd
          obtain ⟨u, v, e1, e2, e3⟩ := O.gl _ _ hd
          simp only [okName, Bool.and_eq_true, Bool.not_eq_true'] at ho
          exact se_k (pe_glob (O.isGl hk) e1 e2 ho.1) e3
        · rw [if_neg ho] at hd; cases hd
      · cases hd
  · refine pl (fun _ => rfl) ?_
    split at h
    · rename_i o ca cb h1 h2 h3
      cases h
      rw [unbop_ok h1]
      exact se_bin O.K (G1 _ _ _ h2) (G1 _ _ _ h3)
    · cases h
  · obtain ⟨ca, h1, rfl⟩ := map_some h
    exact pl (fun _ => rfl) (se_neg (G1 _ _ _ h1))
  · rename_i a pos
    by_cases ht : tstOk a = true
    · rw [if_pos ht] at h
      obtain ⟨ca, h1, rfl⟩ := map_some h
      exact ⟨se_not O.K (G1 _ _ _ h1), fun _ => st_not (G2 _ _ _ h1 ht)⟩
    · rw [if_neg ht] at h; cases h
  · obtain ⟨q1, q2⟩ := boolE_ok O.K (fun e ce h => ⟨G1 _ e ce h, G2 _ e ce h⟩) h
    exact ⟨q1, fun _ => q2.st⟩
  · rename_i a o b pos
    by_cases hb : behindInMarks o b = false
    · rw [if_pos hb] at h
      split at h
      · rename_i ca cb h1 h2
        cases h
        have e := uncop_ok o
        have hb2 : behindInMarks (cop (uncop o)) b = false := by rw [← e]; exact hb
        have s1 := se_cmp (pos := pos) O.K O.units hb2 (G1 _ _ _ h1) (G1 _ _ _ h2)
        have s2 := st_cmp (pos := pos) O.K O.units hb2 (G1 _ _ _ h1) (G1 _ _ _ h2)
        rw [← e] at s1 s2
        exact ⟨s1, fun _ => s2⟩
      · cases h
    · rw [if_neg hb] at h; cases h
  · rename_i a o o' b d pos
    by_cases hb : lastMarks [o, o'] [b, d] = false
    · rw [if_pos hb] at h
      split at h
      · rename_i ca cb cd h1 h2 h3
        cases h
        have e := uncop_ok o
        have e' := uncop_ok o'
        have hb2 : lastMarks [cop (uncop o), cop (uncop o')] [b, d] = false := by rw [← e, ← e']; exact hb
        have s1 := se_chn (pos := pos) O.K O.units hb2 (G1 _ _ _ h1) (G1 _ _ _ h2) (G1 _ _ _ h3)
        have s2 := st_chn (pos := pos) O.K O.units hb2 (G1 _ _ _ h1) (G1 _ _ _ h2) (G1 _ _ _ h3)
        rw [← e, ← e'] at s1 s2
        exact ⟨s1, fun _ => s2⟩
      · cases h
    · rw [if_neg hb] at h; cases h
  · rename_i t a b pos
    by_cases ht : tstOk t = true
    · rw [if_pos ht] at h
      split at h
      · rename_i ct ca cb h1 h2 h3
        cases h
        exact ⟨se_ife (G2 _ _ _ h1 ht) (G1 _ _ _ h2) (G1 _ _ _ h3), fun z => by cases z⟩
      · cases h
    · rw [if_neg ht] at h; cases h
  · rename_i es k pos
    refine pl (fun _ => rfl) ?_
    by_cases hq : es.all noStar = true ∧ es.length ≤ maxLen
    · rw [if_pos hq] at h
      obtain ⟨ces, h1, rfl⟩ := map_some h
      obtain ⟨q1, q2⟩ := mapsE_ok (G1 _) h1
      exact se_tup (by rw [q2]; exact hq.2) (q1.ses hq.1)
    · rw [if_neg hq] at h; cases h
  · rename_i es pos
    refine pl (fun _ => rfl) ?_
    by_cases hq : es.all noStar = true ∧ es.length ≤ maxLen
    · rw [if_pos hq] at h
      obtain ⟨ces, h1, rfl⟩ := map_some h
      obtain ⟨q1, q2⟩ := mapsE_ok (G1 _) h1
      exact se_lst (by rw [q2]; exact hq.2) (q1.ses hq.1)
    · rw [if_neg hq] at h; cases h
  · cases h
    exact pl (fun _ => rfl) se_dct0
  · rename_i keys vs pos _
    refine pl (fun _ => rfl) ?_
    by_cases hq : keys.length = vs.length ∧ keys ≠ [] ∧ keys.length ≤ 15
    · rw [if_pos hq] at h
      split at h
      · rename_i ks ces h1 h2
        cases h
        obtain ⟨q1, q2⟩ := mapsE_ok (G1 _) h2
        exact se_dct h1 hq.1 hq.2.1 hq.2.2 q1
      · cases h
    · rw [if_neg hq] at h; cases h
  · refine pl (fun _ => rfl) ?_
    split at h
    · rename_i ca cl' ch h1 h2 h3
      cases h
      exact se_sl O.K (G1 _ _ _ h1) (partE_ok (G1 _) h2) (partE_ok (G1 _) h3)
    · cases h
  · rename_i a b pos _
    refine pl (fun _ => rfl) ?_
    by_cases hq : noSlice b = true
    · rw [if_pos hq] at h
      split at h
      · rename_i ca cb h1 h2
        cases h
        exact se_ix O.K O.units hq (G1 _ _ _ h1) (G1 _ _ _ h2)
      · cases h
    · rw [if_neg hq] at h; cases h
  · exact pl (fun _ => rfl) (nameE_ok O G h)
  · rename_i o a apos args pos
    refine pl (fun _ => rfl) ?_
    by_cases hq : (apos.endLine == pos.line) = true
    · rw [if_pos hq] at h
      exact methE_ok O G hq h
    · rw [if_neg hq] at h; cases h
  · exact pl (fun _ => rfl) (lcE_ok O G h)
  · cases h
theorem compE_ok : ∀ n, Good c cl kF (compE n)
  | 0 => fun cc X Wx O m e ce h => by cases h
  | n + 1 => stepE_ok (compE_ok n)
/-! ### statements -/
theorem sw_no {e : Expr} (h : isComp e = false) (t : Option Expr) (l : Nat) (env : PySem.Env) : swapsWith e t l env = pure false := by
  cases e <;> first | rfl | cases h
theorem sws_no {tg e : Expr} (h : isComp e = false) (l : Nat) (env : PySem.Env) : swapsWithSole [tg] e l env = pure false := sw_no h _ _ _
theorem swap_no {tg e : Expr} (h : (noTup tg || noTup e) = true) (hl : isLst tg = false) (env : PySem.Env) : swappedStores [tg] e env = pure none := by
  cases tg <;> first
    | rfl
    | (exact absurd hl Bool.noConfusion)
    | (cases e <;> first | rfl | (exact absurd h Bool.noConfusion))
theorem tgE_lst {tg : Expr} {t : Tg} (h : tgE cc tg = some t) : isLst tg = false ∧ ∀ env, (assignEach [tg] env).map (·.2) = [assign tg env] := by
  unfold tgE at h
  split at h
  · exact ⟨rfl, fun _ => rfl⟩
  · exact ⟨rfl, fun _ => rfl⟩
  · cases h
theorem asgE_ok (O : COk c cl kF cc X Wx) (G : Good c cl kF f) {tg e : Expr} {pos : Pos} {cs : C} (h : asgE f cc tg e = some cs) : SS c cl X Wx (.Assign [tg] e pos) cs := by
  have G1 : ∀ m e ce, f cc m e = some ce → SE c cl X Wx e ce := fun m e ce h => (G _ _ _ O _ _ _ h).1
  unfold asgE at h
  by_cases hq : isComp e = false ∧ (noTup tg || noTup e) = true
  · rw [if_pos hq] at h
    split at h
    · rename_i o i p1
      by_cases hi : noSlice i = true
      · rw [if_pos hi] at h
        split at h
        · rename_i ce co ci h1 h2 h3
          cases h
          refine ss_setix O.units (fun v => ?_) (sws_no hq.1 _ _) (G1 _ _ _ h1) (G1 _ _ _ h2) (G1 _ _ _ h3)
          cases i <;> first | rfl | cases hi
        · cases h
      · rw [if_neg hi] at h; cases h
    · split at h
      · rename_i t ce h1 h2
        cases h
        obtain ⟨a, b⟩ := tgE_lst h1
        exact ss_asg (O.tg h1) (sws_no hq.1 _ _) (swap_no hq.2 a _) (b _) (G1 _ _ _ h2)
      · cases h
  · rw [if_neg hq] at h; cases h
mutual
theorem compS_ok (O : COk c cl kF cc X Wx) (G : Good c cl kF f) : ∀ (st : Stmt) {cs : C}, compS f cc st = some cs → SS c cl X Wx st cs
  | .Pass _, cs, h => by unfold compS at h; cases h; exact ss_pass
  | .Break _, cs, h => by unfold compS at h; cases h; exact ss_brk
  | .Continue _, cs, h => by unfold compS at h; cases h; exact ss_cont
  | .Expr e _, cs, h => by
    unfold compS at h
    by_cases hq : isComp e = false
    · rw [if_pos hq] at h
      obtain ⟨ce, h1, rfl⟩ := map_some h
      exact ss_ex (sw_no hq _ _ _) (G _ _ _ O _ _ _ h1).1
    · rw [if_neg hq] at h; cases h
  | .Return none _, cs, h => by unfold compS at h; cases h; exact ss_retN
  | .Return (some e) _, cs, h => by
    unfold compS at h
    obtain ⟨ce, h1, rfl⟩ := map_some h
    exact ss_ret (G _ _ _ O _ _ _ h1).1
  | .Assign [tg] e _, cs, h => by unfold compS at h; exact asgE_ok O G h
  | .AugAssign (.Name x _) op e _, cs, h => by
    unfold compS at h
    split at h
    · rename_i o i ce h1 h2 h3
      cases h
      rw [unbop_ok h1]
      exact ss_aug (O.sto h2) (G _ _ _ O _ _ _ h3).1
    · cases h
  | .If t a b _, cs, h => by
    unfold compS at h
    by_cases hq : tstOk t = true
    · rw [if_pos hq] at h
      split at h
      · rename_i ct ca cb h1 h2 h3
        cases h
        exact ss_ifs ((G _ _ _ O _ _ _ h1).2 hq) (compSs_ok O G a h2) (compSs_ok O G b h3)
      · cases h
    · rw [if_neg hq] at h; cases h
  | .While t a [] _, cs, h => by
    unfold compS at h
    by_cases hq : tstOk t = true
    · rw [if_pos hq] at h
      split at h
      · rename_i ct ca h1 h2
        cases h
        exact ss_whil O.own ((G _ _ _ O _ _ _ h1).2 hq) (compSs_ok O G a h2)
      · cases h
    · rw [if_neg hq] at h; cases h
  | .For tg iter a [] _, cs, h => by
    unfold compS at h
    split at h
    · rename_i k is t ca h1 h2 h3
      cases h
      obtain ⟨i1, i2⟩ := iterE_ok O tg (fun e ce h => (G _ _ _ O _ _ _ h).1) h1
      exact ss_forr O.own O.calm i1 (O.tg h2) (compSs_ok O G a h3) (fold_of i2 _)
    · cases h
  | .FunctionDef .., cs, h => by unfold compS at h; cases h
  | .AsyncFunctionDef .., cs, h => by unfold compS at h; cases h
  | .ClassDef .., cs, h => by unfold compS at h; cases h
  | .Delete .., cs, h => by unfold compS at h; cases h
  | .Assign [] _ _, cs, h => by unfold compS at h; cases h
  | .Assign (_ :: _ :: _) _ _, cs, h => by unfold compS at h; cases h
  | .TypeAlias .., cs, h => by unfold compS at h; cases h
  | .AugAssign (.BoolOp ..) _ _ _, cs, h => by unfold compS at h; cases h
  | .AugAssign (.NamedExpr ..) _ _ _, cs, h => by unfold compS at h; cases h
  | .AugAssign (.BinOp ..) _ _ _, cs, h => by unfold compS at h; cases h
  | .AugAssign (.UnaryOp ..) _ _ _, cs, h => by unfold compS at h; cases h
  | .AugAssign (.Lambda ..) _ _ _, cs, h => by unfold compS at h; cases h
  | .AugAssign (.IfExp ..) _ _ _, cs, h => by unfold compS at h; cases h
  | .AugAssign (.Dict ..) _ _ _, cs, h => by unfold compS at h; cases h
  | .AugAssign (.Set ..) _ _ _, cs, h => by unfold compS at h; cases h
  | .AugAssign (.ListComp ..) _ _ _, cs, h => by unfold compS at h; cases h
  | .AugAssign (.SetComp ..) _ _ _, cs, h => by unfold compS at h; cases h
  | .AugAssign (.DictComp ..) _ _ _, cs, h => by unfold compS at h; cases h
  | .AugAssign (.GeneratorExp ..) _ _ _, cs, h => by unfold compS at h; cases h
  | .AugAssign (.Await ..) _ _ _, cs, h => by unfold compS at h; cases h
  | .AugAssign (.Yield ..) _ _ _, cs, h => by unfold compS at h; cases h
  | .AugAssign (.YieldFrom ..) _ _ _, cs, h => by unfold compS at h; cases h
  | .AugAssign (.Compare ..) _ _ _, cs, h => by unfold compS at h; cases h
  | .AugAssign (.Call ..) _ _ _, cs, h => by unfold compS at h; cases h
  | .AugAssign (.FormattedValue ..) _ _ _, cs, h => by unfold compS at h; cases h
  | .AugAssign (.JoinedStr ..) _ _ _, cs, h => by unfold compS at h; cases h
  | .AugAssign (.Constant ..) _ _ _, cs, h => by unfold compS at h; cases h
  | .AugAssign (.Attribute ..) _ _ _, cs, h => by unfold compS at h; cases h
  | .AugAssign (.Subscript ..) _ _ _, cs, h => by unfold compS at h; cases h
  | .AugAssign (.Starred ..) _ _ _, cs, h => by unfold compS at h; cases h
  | .AugAssign (.List ..) _ _ _, cs, h => by unfold compS at h; cases h
  | .AugAssign (.Tuple ..) _ _ _, cs, h => by unfold compS at h; cases h
  | .AugAssign (.Slice ..) _ _ _, cs, h => by unfold compS at h; cases h
  | .AnnAssign .., cs, h => by unfold compS at h; cases h
  | .For _ _ _ (_ :: _) _, cs, h => by unfold compS at h; cases h
  | .AsyncFor .., cs, h => by unfold compS at h; cases h
  | .While _ _ (_ :: _) _, cs, h => by unfold compS at h; cases h
  | .With .., cs, h => by unfold compS at h; cases h
  | .AsyncWith .., cs, h => by unfold compS at h; cases h
  | .Match .., cs, h => by unfold compS at h; cases h
  | .Raise .., cs, h => by unfold compS at h; cases h
  | .Try .., cs, h => by unfold compS at h; cases h
  | .TryStar .., cs, h => by unfold compS at h; cases h
  | .Assert .., cs, h => by unfold compS at h; cases h
  | .Import .., cs, h => by unfold compS at h; cases h
  | .ImportFrom .., cs, h => by unfold compS at h; cases h
  | .Global .., cs, h => by unfold compS at h; cases h
  | .Nonlocal .., cs, h => by unfold compS at h; cases h
theorem compSs_ok (O : COk c cl kF cc X Wx) (G : Good c cl kF f) : ∀ (ss : List Stmt) {cs : List C}, compSs f cc ss = some cs → SSs c cl X Wx ss cs
  | [], cs, h => by unfold compSs at h; cases h; exact sss_nil
  | s :: ss, cs, h => by
    unfold compSs at h
    split at h
    · rename_i c1 cs1 h1 h2
      cases h
      exact sss_cons (compS_ok O G s h1) (compSs_ok O G ss h2)
    · cases h
end
end
end Pc
set_option Elab.async false
set_option linter.all false
set_option maxRecDepth 100000
set_option autoImplicit false
set_option maxHeartbeats 2000000
/-! PcC4: the program's defs keep what their codes say -/
namespace Pc
open PySem PySem.Spec PyProof.Rows L2

structure DI where
  name : Str
  st : Stmt
  N : List Str
  ps : List Str
  mu : List Str := []
  rm : Bool := false
structure PD where
  defs : List DI
  gl : List (Str × D)
  bs : List Str
  gc : Bool
def PD.fns (pl : PD) : List (Str × Nat) := (pl.defs.map (·.name)).zipIdx
def ccOf (pl : PD) (d : DI) : CC := ⟨d.N, defScope d.st, pl.fns, pl.gl, pl.bs, pl.gc, true, true, d.mu, d.rm⟩
def fscC (N ps : List Str) (sc : Scope) : Bool :=
  (match sc.kind with | .function => true | _ => false) && (sc.isCoroutine == false) && (sc.isGenerator == false) && decide N.Nodup && decide (N.take ps.length = ps) &&
    (ps.all fun x => match sc.names.lookup x with | some .local => true | some .cell => true | _ => false) && (sc.names.all fun y => match y.2 with | .free => false | _ => true)
theorem fsc_by {N ps : List Str} {sc : Scope} (h : fscC N ps sc = true) : FnScope N ps sc := by
  unfold fscC at h
  simp only [Bool.and_eq_true, List.all_eq_true, decide_eq_true_eq] at h
  obtain ⟨⟨⟨⟨⟨⟨h1, h2⟩, h3⟩, h4⟩, h5⟩, h6⟩, h7⟩ := h
  refine ⟨?_, by simpa using h2, by simpa using h3, h4, h5, fun x hx => ?_, fun y hy e => ?_⟩
  · split at h1
    · assumption
    · cases h1
  · have q := h6 x hx
    split at q
    · exact .inl (by assumption)
    · exact .inr (by assumption)
    · cases q
  · have q := h7 y hy
    rw [e] at q
    cases q
def fnOfDI (pl : PD) (d : DI) : Option Fn := if fscC d.N d.ps (defScope d.st) = true then (compSs (compE 60) (ccOf pl d) (defBody d.st)).map fun b => ⟨d.ps.length, d.N.length, b⟩ else none
def mapO {α β : Type} (f : α → Option β) : List α → Option (List β)
  | [] => some []
  | a :: as => match f a, mapO f as with
    | some b, some bs => some (b :: bs)
    | _, _ => none
theorem mapO_at {α β : Type} {f : α → Option β} : ∀ {as : List α} {bs : List β}, mapO f as = some bs → ∀ (i : Nat) a, as[i]? = some a → ∃ b, f a = some b ∧ bs[i]? = some b
  | [], bs, h, i, a, ha => by simp at ha
  | a :: as, bs, h, i, x, hx => by
    unfold mapO at h
    split at h
    · rename_i b bs' h1 h2
      cases h
      cases i with
      | zero =>
        have e : a = x := by simpa using hx
        subst e
        exact ⟨b, h1, rfl⟩
      | succ i =>
        obtain ⟨y, q1, q2⟩ := mapO_at h2 i x (by simpa using hx)
        exact ⟨y, q1, by simpa using q2⟩
    · cases h
def prgOf (pl : PD) : Option Prg := mapO (fnOfDI pl) pl.defs
theorem fns_at {pl : PD} {x : Str} {i : Nat} (h : pl.fns.lookup x = some i) : ∃ d, pl.defs[i]? = some d ∧ d.name = x := by
  have h1 := PySem.mem_of_lookup h
  unfold PD.fns at h1
  rw [List.mk_mem_zipIdx_iff_getElem?] at h1
  rw [List.getElem?_map] at h1
  cases q : pl.defs[i]? with
  | none => rw [q] at h1; cases h1
  | some d => rw [q] at h1; exact ⟨d, rfl, Option.some.inj h1⟩
theorem rws_at {K : PySem.W.Frag} {g : Gh} : ∀ {ws : List W} {vs : List V} (i : Nat) {w : W}, RWs K g ws vs → ws[i]? = some w → ∃ v, vs[i]? = some v ∧ RW K g w v
  | [], vs, i, w, _, h => by simp at h
  | x :: ws, vs, i, w, ⟨v, vs', e, r1, r2⟩, h => by
    subst e
    cases i with
    | zero =>
      have e : x = w := by simpa using h
      subst e
      exact ⟨v, rfl, r1⟩
    | succ i =>
      obtain ⟨v2, q1, q2⟩ := rws_at i r2 (by simpa using h)
      exact ⟨v2, by simpa using q1, q2⟩
theorem rws_len {K : PySem.W.Frag} {g : Gh} : ∀ {ws : List W} {vs : List V}, RWs K g ws vs → ws.length = vs.length
  | [], vs, h => by cases h; rfl
  | x :: ws, vs, ⟨v, vs', e, r1, r2⟩ => by
    subst e
    rw [List.length_cons, List.length_cons, rws_len r2]
theorem envR_start {K : PySem.W.Frag} {g : Gh} {ws : List W} {vs : List V} {N : List Str} {np nl : Nat} (r : RWs K g ws vs) (h1 : ws.length = np) (h2 : nl = N.length) : EnvR K g (ws.map some ++ List.replicate (nl - np) none) (L2.start N vs) := by
  have hl := rws_len r
  refine ⟨?_, fun i w hi => ?_⟩
  · unfold L2.start
    rw [List.length_append, List.length_append, List.length_map, List.length_map, List.length_replicate, List.length_replicate, hl, ← h1, h2, hl]
  · by_cases hlt : i < ws.length
    · rw [List.getElem?_append_left (by simpa using hlt), List.getElem?_map] at hi
      cases q : ws[i]? with
      | none => rw [q] at hi; cases hi
      | some x =>
        rw [q] at hi
        cases hi
        obtain ⟨v, a, b⟩ := rws_at i r q
        refine ⟨v, ?_, b⟩
        unfold L2.start
        rw [List.getElem?_append_left (by rw [List.length_map, ← hl]; exact hlt), List.getElem?_map, a]
        rfl
    · rw [List.getElem?_append_right (by rw [List.length_map]; omega), List.getElem?_replicate] at hi
      split at hi <;> cases hi

/-- what the head tells of the program -/
structure Told (pl : PD) (K : PySem.W.Frag) (mg : Str → Option Value) (base : Heap) : Prop where
  fd : ∀ d ∈ pl.defs, ∃ fd, FunD K d.name d.name (defArgs d.st) (defBody d.st) (defScope d.st) [] [] (He.fAd K (d.name, none)) fd ∧ Binds K fd d.ps []
  glo : ∀ d ∈ pl.defs, mg d.name = some (.ref (He.fAd K (d.name, none)))
  bs : ∀ x ∈ pl.bs, mg x = none
  gcd : pl.gc = true → mg "gcd" = some (.builtin "math.gcd")
  gl : ∀ x d, pl.gl.lookup x = some d → ∃ u v, mg x = some u ∧ RelV v u ∧ ∀ g, RD K g d v
  tab : ∀ d ∈ pl.defs, GxR.TabB base mg (He.cT K (d.name, none)).1 (He.cT K (d.name, none)).2
def cfgOf (pl : PD) (K : PySem.W.Frag) : Cfg := { K := K, T := pl.defs.map fun d => (He.cT K (d.name, none)).2, ca := fun _ => none }
theorem fns_ok {pl : PD} {P : Program} {w : World} {K : PySem.W.Frag} {mg : Str → Option Value} {base : Heap} {prg : Prg} (hp : prgOf pl = some prg) (T : Told pl K mg base) :
    ∀ (n i : Nat) (d : DI) (fd : FuncData), pl.defs[i]? = some d → FunD K d.name d.name (defArgs d.st) (defBody d.st) (defScope d.st) [] [] (He.fAd K (d.name, none)) fd →
      FnOk P w K mg base (L2.CX P w) (2 * n) (He.fAd K (d.name, none)) fd d.ps (spF (cfgOf pl K) (run prg n) i)
  | 0, i, d, fd, _, _ => ⟨fun vs H Q E ⟨g, ws, S, _, _, _, p⟩ => p.elim, fun A outer s H args us vs Q E _ _ _ _ ⟨g, ws, S, _, _, _, p⟩ => p.elim⟩
  | n + 1, i, d, fd, hd, F => by
    obtain ⟨fn, hfn, hpi⟩ := mapO_at hp i d hd
    unfold fnOfDI at hfn
    by_cases hsc : fscC d.N d.ps (defScope d.st) = true
    · rw [if_pos hsc] at hfn
      obtain ⟨body, hb, rfl⟩ := map_some hfn
      have unf : ∀ {c : Cfg} {Wx : WX} {σ : L2.St} {Q : VK} {g : Gh} {ws : List W} {S : Sto}, (PostW c Wx σ Q).p g (run prg (n + 1) i ws S) → ws.length = d.ps.length ∧ d.ps.length ≤ d.N.length ∧
          (PostW c Wx σ Q).p g ((noexc (exSs (run prg n) body (ws.map some ++ List.replicate (d.N.length - d.ps.length) none) S)).bind fun p S => match p.1 with
            | .nx => .ok (.d .non) S
            | .ret w => .ok w S
            | .exc x => .exc x S
            | _ => .err) := fun {c Wx σ Q g ws S} h => by
        simp only [run, hpi] at h
        by_cases q : ws.length = d.ps.length ∧ d.ps.length ≤ d.N.length
        · rw [if_pos q] at h; exact ⟨q.1, q.2, h⟩
        · rw [if_neg q] at h; exact h.elim
      obtain ⟨oc, od, dV, kV, doc, pm, an, cdv, ct, osl, rfl, lk, hcd, _, _⟩ := id F.ex
      obtain ⟨cA, rfl⟩ := He.codeIn_ref hcd
      have eC : He.codeOf K (d.name, none) = cA := He.codeOf_eq lk rfl
      have hmem : d ∈ pl.defs := List.mem_of_getElem? hd
      refine fn_of lk hcd (fsc_by hsc) (fun vs H Q E ⟨g, ws, S, _, _, r, p⟩ => ?_) fun A outer s H vs Q E hr hsp => ?_
      · obtain ⟨q, _, _⟩ := unf p
        rw [← rws_len r, q]
      · obtain ⟨g, ws, S, rfl, R, r, p⟩ := hsp
        obtain ⟨q1, q2, p⟩ := unf p
        have O : COk (cfgOf pl K) (run prg n) (2 * n) (ccOf pl d) (cxOf (L2.CX P w) P w K mg base d.N d.name (defScope d.st) (He.fAd K (d.name, none)) (.ref cA) A outer s g.H E) (fun cls d _ H => E cls d H) :=
          { K := rfl, N := rfl, nd := (fsc_by hsc).nd, sc := rfl, fn := fun _ _ => rfl, calm := rfl, room := hr, tk := takes_of rfl rfl rfl rfl, own := passes_of rfl, bs := T.bs, gcd := T.gcd, gl := T.gl,
            fns := fun x j hj => by
              obtain ⟨d2, e1, e2⟩ := fns_at hj
              have m2 := List.mem_of_getElem? e1
              obtain ⟨fd2, F2, B2⟩ := T.fd d2 m2
              refine ⟨_, fd2, d2.ps, ?_, F2.kp, B2, fns_ok hp T n j d2 fd2 e1 F2⟩
              rw [← e2]; exact T.glo d2 m2
            tab := fun _ => ⟨cA, (He.cT K (d.name, none)).2, by
              have q := T.tab d hmem
              have e : (He.cT K (d.name, none)).1 = cA := eC
              rw [e] at q
              exact q, rfl, List.mem_map.mpr ⟨d, hmem, rfl⟩⟩ }
        refine ⟨_, pss_wss _ _, compSs_ok O (compE_ok 60) _ hb g S (L2.start d.N vs) _ _ R (envR_start r q1 rfl) ?_⟩
        cases hx : exSs (run prg n) body (ws.map some ++ List.replicate (d.N.length - d.ps.length) none) S with
        | ok pr S' =>
          obtain ⟨fl, env'⟩ := pr
          rw [hx] at p
          intro σ' g' e R' ev'
          cases fl with
          | nx => exact p .non g' e R' rfl
          | ret w => exact fun v rv => p v g' e R' rv
          | exc x => exact fun cls dx rx => p cls dx g' e R' rx
          | brk => exact p.elim
          | cont => exact p.elim
        | exc x S' => rw [hx] at p; exact p.elim
        | err => rw [hx] at p; exact p.elim
    · rw [if_neg hsc] at hfn; cases hfn
end Pc
set_option Elab.async false
set_option linter.all false
set_option maxRecDepth 100000
set_option autoImplicit false
set_option maxHeartbeats 2000000
/-! PcC5: the end of a law -/
namespace Pc
open PySem PySem.Spec PyProof.Rows L2

def DI.defD (d : DI) : He.DefD := ⟨(d.name, none), d.name, d.name, defArgs d.st, defBody d.st, defScope d.st, [], []⟩
def faOf (pl : PD) : List He.Fa := pl.defs.map (fun d => He.Fa.glo d.name) ++ pl.bs.map He.Fa.free
def fnOf (pl : PD) : List He.DefD := pl.defs.map DI.defD
def tfOf (pl : PD) : List He.Defn := pl.defs.map fun d => (d.name, none)
def exOf (pl : PD) (K : PySem.W.Frag) : Bool := (pl.gl.all fun p => match PySem.W.nsIn K mainGlobals p.1 with
    | some (some u) => datB K p.2 u
    | _ => false) && (!pl.gc || (match PySem.W.nsIn K mainGlobals "gcd" with
    | some (some (.builtin s)) => decide (s = "math.gcd")
    | _ => false))
def BindAll : List DI → Prop
  | [] => True
  | d :: ds => (∀ (kV doc pm : Value) (an : Option Addr) (cdv ct : Value) (us : List Value), us.length = d.ps.length → bindArgs (PySem.W.fnOf d.name d.name (defArgs d.st) (defBody d.st) (defScope d.st) .none kV doc pm an cdv ct) ⟨us, []⟩ = pure (d.ps.zip us)) ∧ BindAll ds
theorem BindAll.at_ : ∀ {ds : List DI}, BindAll ds → ∀ d ∈ ds, ∀ (kV doc pm : Value) (an : Option Addr) (cdv ct : Value) (us : List Value), us.length = d.ps.length → bindArgs (PySem.W.fnOf d.name d.name (defArgs d.st) (defBody d.st) (defScope d.st) .none kV doc pm an cdv ct) ⟨us, []⟩ = pure (d.ps.zip us)
  | [], _, d, hd => by cases hd
  | e :: ds, ⟨h1, h2⟩, d, hd => by
    rcases List.mem_cons.mp hd with z | z
    · rw [z]; exact h1
    · exact BindAll.at_ h2 d z
theorem told_of {pl : PD} {w : World} {K : PySem.W.Frag} {mg : Str → Option Value} {h base : Heap} (KX : K.In h) (G : h.Ns mainGlobals mg) (Y : He.SaysX (faOf pl) (fnOf pl) [] (tfOf pl) (exOf pl) w h K) (hB : BindAll pl.defs)
    (TB : ∀ p ∈ pl.defs.map (fun d => He.cT K (d.name, none)), LamX.TabB base mg p.1 p.2) : Told pl K mg base where
  fd := fun d hd => by
    obtain ⟨fd, F⟩ := He.SaysD.defs Y.t.d (d := d.defD) (List.mem_map.mpr ⟨d, hd, rfl⟩)
    exact ⟨fd, F, F.bindsN (hB.at_ d hd)⟩
  glo := fun d hd => He.glo_ok KX G (He.SaysD.facts Y.t.d (f := .glo d.name) (List.mem_append_left _ (List.mem_map.mpr ⟨d, hd, rfl⟩)))
  bs := fun x hx => He.free_ok KX G (He.SaysD.facts Y.t.d (f := .free x) (List.mem_append_right _ (List.mem_map.mpr ⟨x, hx, rfl⟩)))
  gcd := fun hg => by
    have m := Y.more
    unfold exOf at m
    rw [hg] at m
    simp only [Bool.and_eq_true, Bool.not_true, Bool.false_or] at m
    have m2 := m.2
    split at m2
    · rename_i s e
      rw [of_decide_eq_true m2] at e
      exact PySem.W.mg_of KX G e
    · cases m2
  gl := fun x d hd => by
    have m := Y.more
    unfold exOf at m
    simp only [Bool.and_eq_true, List.all_eq_true] at m
    have m2 := m.1 (x, d) (PySem.mem_of_lookup hd)
    dsimp only at m2
    split at m2
    · rename_i u e
      obtain ⟨v, r1, r2⟩ := datB_ok d u m2
      exact ⟨u, v, PySem.W.mg_of KX G e, r1, r2⟩
    · cases m2
  tab := fun d hd => by
    have q := TB (He.cT K (d.name, none)) (List.mem_map.mpr ⟨d, hd, rfl⟩)
    exact ⟨q.code, q.bm, q.gP⟩
/-- the law's promise in plain Lean -/
def LawPure (prg : Prg) (L iL : Nat) : Prop := ∀ (x : D) (ns : List Int), ns.length ≤ 63 → (∀ z ∈ ns, Builtin.Int.intBits z ≤ 1048576) → (∀ S, seqOf S (.d x) = some (ns.map fun i => .d (.int i))) → ∃ S', run prg L iL [.d x] [] = .ok (.d (.bl true)) S'
theorem spF_law {pl : PD} {K : PySem.W.Frag} {prg : Prg} {L iL : Nat} (hp : LawPure prg L iL) {H : Hp} {a : Addr} {ns : List Int} (h1 : ns.length ≤ 63) (h2 : ∀ z ∈ ns, Builtin.Int.intBits z ≤ 1048576) (hT : ∀ P ∈ (cfgOf pl K).T, H P = some (.tbl #[])) (hS : SqL K H a (ns.map V.int)) :
    spF (cfgOf pl K) (run prg L) iL [.ref a] H (fun v _ => v = .bl true) fun _ _ _ => False := by
  have R : Rl (cfgOf pl K) ⟨fun _ => False, [], H⟩ [] := ⟨rfl, .nil, fun a h => (by cases h), fun n ce a h => (by simp at h), fun P hP => ⟨#[], hT P hP, by simp [TriplesOk]⟩, fun a h => h.elim⟩
  have fin : ∀ x : D, RD K ⟨fun _ => False, [], H⟩ x (.ref a) → (∀ S, seqOf S (.d x) = some (ns.map fun i => .d (.int i))) → spF (cfgOf pl K) (run prg L) iL [.ref a] H (fun v _ => v = .bl true) fun _ _ _ => False := fun x r hs => by
    obtain ⟨S', e⟩ := hp x ns h1 h2 hs
    refine ⟨⟨fun _ => False, [], H⟩, [.d x], [], rfl, R, ⟨.ref a, [], rfl, r, rfl⟩, ?_⟩
    rw [e]
    intro v g' _ _ rv
    exact rv
  rcases hS with (h | ⟨o, h⟩) | h
  · refine fin (.lst (ns.map .int)) ⟨a, _, rfl, h, fun z => z, ?_⟩ fun S => ?_
    · have key : ∀ ms : List Int, RDs K ⟨fun _ => False, [], H⟩ (ms.map .int) (ms.map V.int) := fun ms => by
        induction ms with
        | nil => rfl
        | cons m ms ih => exact ⟨.int m, _, rfl, rfl, ih⟩
      exact key ns
    · simp [seqOf]
  · exact fin (.scr ns) ⟨a, rfl, .inl ⟨o, h⟩⟩ fun S => rfl
  · exact fin (.scr ns) ⟨a, rfl, .inr h⟩ fun S => rfl
theorem walk_pl {l : PySem.W.OpenLaw} {q : Program} {loose : List Str} {XP : (Str → Option Value) → Heap → Prop} {d : DefRec} {pl : PD} {prg : Prg} {L iL : Nat} {dl : DI} {x : Str}
    (hn : l.most = some 63) (hdf : d.params.defaults = []) (hr : Room (2 * L) callerA) (hp : prgOf pl = some prg) (hL : pl.defs[iL]? = some dl) (hps : dl.ps = [x]) (hname : d.name = dl.name) (hB : BindAll pl.defs) (hpure : LawPure prg L iL) :
    PySem.W.WalkO q loose XP (fun w h => ∃ K : PySem.W.Frag, K.In h ∧ He.SaysX (faOf pl) (fnOf pl) [] (tfOf pl) (exOf pl) w h K) l.row.toRowW d [] (fun f vs => PySem.call f vs) := by
  have hmem : dl ∈ pl.defs := List.mem_of_getElem? hL
  refine LamX.walk_ofTsE (l := l) (n := 63) (k := 2 * L) (CX := fun w => L2.CX l.prog w) (x := x) hn (by decide) hdf hr ?_ (fun w H s e s' h => by
    obtain ⟨_, _, _, _, _, _, _, _, _, _, _, _, z⟩ := h
    exact z)
  intro w mg fa h ⟨K, KX, Y⟩ G hmg
  refine ⟨K, KX, ?_⟩
  obtain ⟨fd, F⟩ := He.SaysD.defs Y.t.d (d := dl.defD) (List.mem_map.mpr ⟨dl, hmem, rfl⟩)
  have F : FunD K dl.name dl.name (defArgs dl.st) (defBody dl.st) (defScope dl.st) [] [] (He.fAd K (dl.name, none)) fd := F
  have hfa : fa = He.fAd K (dl.name, none) := by
    have e := He.glo_ok KX G (He.SaysD.facts Y.t.d (f := .glo dl.name) (List.mem_append_left _ (List.mem_map.mpr ⟨dl, hmem, rfl⟩)))
    rw [hname, e] at hmg
    cases hmg
    rfl
  have mem : ∀ p ∈ pl.defs.map (fun d => He.cT K (d.name, none)), ∃ r ∈ tfOf pl, p = He.cT K r := fun p hp => by
    obtain ⟨d, hd, rfl⟩ := List.mem_map.mp hp
    exact ⟨(d.name, none), List.mem_map.mpr ⟨d, hd, rfl⟩, rfl⟩
  refine ⟨fd, pl.defs.map (fun d => He.cT K (d.name, none)), spF (cfgOf pl K) (run prg L) iL, fun p hp => ?_, fun p hp => ?_, fun p hp => ?_, fun s u => ?_, fun H a ns h1 h2 hT hS => ?_, fun base KB GB TB => ?_⟩
  · obtain ⟨r, hr, rfl⟩ := mem p hp
    exact Y.empty r hr
  · obtain ⟨r, hr, rfl⟩ := mem p hp
    exact Y.out r hr
  · obtain ⟨r, hr, rfl⟩ := mem p hp
    exact PySem.W.codeHd_of_K KX (Y.hd r hr)
  · have b := F.bindsA (hB.at_ dl hmem) s [u] (by rw [hps]; rfl)
    rw [hps] at b
    exact b
  · refine spF_law hpure h1 h2 (fun P hP => ?_) hS
    obtain ⟨d, hd, rfl⟩ := List.mem_map.mp hP
    exact hT (He.cT K (d.name, none)) (List.mem_map.mpr ⟨d, hd, rfl⟩)
  · rw [hfa, ← hps]
    exact fns_ok hp (told_of KX G Y hB TB) L iL dl fd hL F
end Pc
set_option Elab.async false
set_option linter.all false
set_option maxRecDepth 100000
set_option autoImplicit false
set_option maxHeartbeats 1000000
/-! PcP: reading codes -/
namespace Pc
open PySem L2
def negW (x : W) (S : Sto) : Pc.R W := match x with
    | .d (.int i) => .ok (.d (.int (-i))) S
    | _ => .err
@[simp] theorem negW_int (i : Int) (S : Sto) : negW (.d (.int i)) S = .ok (.d (.int (-i))) S := rfl
def contW (t : W) (S : Sto) (k : Sto → Pc.R W) : Pc.R W := match t with
    | .d (.bl true) => k S
    | .d (.bl false) => .ok (.d (.bl false)) S
    | _ => .err
@[simp] theorem contW_bl (b : Bool) (S : Sto) (k : Sto → Pc.R W) : contW (.d (.bl b)) S k = if b = true then k S else .ok (.d (.bl false)) S := by cases b <;> rfl
def nxt (p : Fl × Pc.Env) (S : Sto) (k : Pc.Env → Sto → Pc.R (Fl × Pc.Env)) : Pc.R (Fl × Pc.Env) := match p.1 with
    | .nx => k p.2 S
    | f => .ok (f, p.2) S
@[simp] theorem nxt_nx (e : Pc.Env) (S : Sto) (k : Pc.Env → Sto → Pc.R (Fl × Pc.Env)) : nxt (.nx, e) S k = k e S := rfl
@[simp] theorem nxt_ret (w : W) (e : Pc.Env) (S : Sto) (k : Pc.Env → Sto → Pc.R (Fl × Pc.Env)) : nxt (.ret w, e) S k = .ok (.ret w, e) S := rfl
@[simp] theorem nxt_brk (e : Pc.Env) (S : Sto) (k : Pc.Env → Sto → Pc.R (Fl × Pc.Env)) : nxt (.brk, e) S k = .ok (.brk, e) S := rfl
@[simp] theorem nxt_cont (e : Pc.Env) (S : Sto) (k : Pc.Env → Sto → Pc.R (Fl × Pc.Env)) : nxt (.cont, e) S k = .ok (.cont, e) S := rfl
@[simp] theorem nxt_exc (x : Ex) (e : Pc.Env) (S : Sto) (k : Pc.Env → Sto → Pc.R (Fl × Pc.Env)) : nxt (.exc x, e) S k = .ok (.exc x, e) S := rfl
section
variable {cl : Call} {env : Pc.Env} {S S1 : Sto}
@[simp] theorem p_bok {α β : Type} (a : α) (S : Sto) (f : α → Sto → Pc.R β) : (Pc.R.ok a S).bind f = f a S := rfl
@[simp] theorem p_bex {α β : Type} (x : Ex) (S : Sto) (f : α → Sto → Pc.R β) : (R.exc x S : Pc.R α).bind f = .exc x S := rfl
@[simp] theorem p_ber {α β : Type} (f : α → Sto → Pc.R β) : (R.err : Pc.R α).bind f = .err := rfl
@[simp] theorem p_lok {α : Type} (a : α) (S : Sto) (env : Pc.Env) (f : α → Sto → Pc.R (Fl × Pc.Env)) : lft (.ok a S) env f = f a S := rfl
@[simp] theorem p_ofs {α : Type} (a : α) (S : Sto) : ofO (some a) S = .ok a S := rfl
@[simp] theorem p_nox {α : Type} (a : α) (S : Sto) : noexc (.ok a S : Pc.R α) = .ok a S := rfl
@[simp] theorem p_k (d : D) : evE cl (.k d) env S = .ok (.d d) S := by simp only [evE]
@[simp] theorem p_var (i : Nat) : evE cl (.var i) env S = ofO (env[i]?.join) S := by simp only [evE]
@[simp] theorem p_bin (o : BOp) (a b : E) : evE cl (.bin o a b) env S = (evE cl a env S).bind fun x S => (evE cl b env S).bind fun y S => binW o x y S := by simp only [evE]
@[simp] theorem p_neg (a : E) : evE cl (.neg a) env S = (evE cl a env S).bind fun x S => negW x S := by simp only [evE]; rfl
@[simp] theorem p_cmp (o : COp) (a b : E) : evE cl (.cmp o a b) env S = (evE cl a env S).bind fun x S => (evE cl b env S).bind fun y S => cmpW o x y S := by simp only [evE]
@[simp] theorem p_chn (o o' : COp) (a b c : E) : evE cl (.chn o o' a b c) env S = (evE cl a env S).bind fun x S => (evE cl b env S).bind fun y S => (cmpW o x y S).bind fun t S => contW t S fun S => (evE cl c env S).bind fun z S => cmpW o' y z S := by simp only [evE]; rfl
@[simp] theorem p_and (a b : E) : evE cl (.and a b) env S = (evE cl a env S).bind fun x S => (ofO (truthW S x) S).bind fun c S => if c then evE cl b env S else .ok x S := by simp only [evE]
@[simp] theorem p_or (a b : E) : evE cl (.or a b) env S = (evE cl a env S).bind fun x S => (ofO (truthW S x) S).bind fun c S => if c then .ok x S else evE cl b env S := by simp only [evE]
@[simp] theorem p_not (a : E) : evE cl (.not a) env S = (evE cl a env S).bind fun x S => (ofO (truthW S x) S).bind fun c S => .ok (.d (.bl (!c))) S := by simp only [evE]
@[simp] theorem p_ife (t a b : E) : evE cl (.ife t a b) env S = (evE cl t env S).bind fun x S => (ofO (truthW S x) S).bind fun c S => if c then evE cl a env S else evE cl b env S := by simp only [evE]
@[simp] theorem p_tup (es : List E) : evE cl (.tup es) env S = (evEs cl es env S).bind fun ws S => (ofO (allD ws) S).bind fun ds S => .ok (.d (.tup ds)) S := by simp only [evE]
@[simp] theorem p_lstf (es : List E) : evE cl (.lst false es) env S = (evEs cl es env S).bind fun ws S => (ofO (allD ws) S).bind fun ds S => .ok (.d (.lst ds)) S := by simp [evE]
@[simp] theorem p_lstt (es : List E) : evE cl (.lst true es) env S = (evEs cl es env S).bind fun ws S => .ok (.loc S.length) (S ++ [.lst ws]) := by simp [evE]
@[simp] theorem p_dct (ks : List Key) (es : List E) : evE cl (.dct ks es) env S = (evEs cl es env S).bind fun ws S => if ks.length = ws.length ∧ ks.length ≤ 15 ∧ ks.Nodup then .ok (.loc S.length) (S ++ [.dct (ks.zip ws)]) else .err := by simp only [evE]
@[simp] theorem p_ix (a b : E) : evE cl (.ix a b) env S = (evE cl a env S).bind fun x S => (evE cl b env S).bind fun y S => ixW x y S := by simp only [evE]
@[simp] theorem p_nop : evE cl .nopart env S = .ok (.d .non) S := by simp only [evE]
@[simp] theorem p_sl (a lo hi : E) : evE cl (.sl a lo hi) env S = (evE cl a env S).bind fun x S => (evE cl lo env S).bind fun y S => (ofO (partW lo y) S).bind fun l S => (evE cl hi env S).bind fun z S => (ofO (partW hi z) S).bind fun h S => slW x l h S := by simp only [evE]
@[simp] theorem p_callF (f : Nat) (es : List E) : evE cl (.call false f es) env S = (evEs cl es env S).bind fun ws S => callF cl f ws S := by simp [evE]
@[simp] theorem p_callN (f : Nat) (es : List E) : evE cl (.call true f es) env S = (evEs cl es env S).bind fun ws S => callN cl f ws S := by simp [evE]
@[simp] theorem p_bi (f : Bi) (es : List E) : evE cl (.bi f es) env S = (evEs cl es env S).bind fun ws S => biW f ws S := by simp only [evE]
@[simp] theorem p_bm (f : Bm) (a : E) (es : List E) : evE cl (.bm f a es) env S = (evE cl a env S).bind fun x S => if recvOk f x S then (evEs cl es env S).bind fun ws S => bmW f x ws S else .err := by simp only [evE]
@[simp] theorem p_gx (g : Gk) (t : Tg) (it : Ik) (is : List E) (e : E) (own : List Nat) : evE cl (.gx g t it is e own) env S = (evEs cl is env S).bind fun src S => (ofO (itW it src S) S).bind fun items S =>
      gR g (fun x S => (ofO (bindT t x (wipeE env own) S) S).bind fun env' S => evE cl e env' S) it src items items 0 S := by simp only [evE]
@[simp] theorem p_nil : evEs cl [] env S = .ok [] S := by simp only [evEs]
@[simp] theorem p_cons (e : E) (es : List E) : evEs cl (e :: es) env S = (evE cl e env S).bind fun w S => (evEs cl es env S).bind fun ws S => .ok (w :: ws) S := by simp only [evEs]
@[simp] theorem p_tnil : evTs cl [] env S = .ok true S := by simp only [evTs]
@[simp] theorem p_tcons (e : E) (es : List E) : evTs cl (e :: es) env S = (evE cl e env S).bind fun x S => (ofO (truthW S x) S).bind fun c S => if c then evTs cl es env S else .ok false S := by simp only [evTs]
@[simp] theorem p_T (e : E) : evT cl e env S = (evE cl e env S).bind fun x S => ofO (truthW S x) S := rfl
@[simp] theorem p_tbl (b : Bool) : truthW S (.d (.bl b)) = some b := rfl
@[simp] theorem p_tint (i : Int) : truthW S (.d (.int i)) = some (!decide (i = 0)) := rfl
@[simp] theorem p_pass : exS cl .pass env S = .ok (.nx, env) S := by simp only [exS]
@[simp] theorem p_brk : exS cl .brk env S = .ok (.brk, env) S := by simp only [exS]
@[simp] theorem p_cont : exS cl .cont env S = .ok (.cont, env) S := by simp only [exS]
@[simp] theorem p_asg (t : Tg) (e : E) : exS cl (.asg t e) env S = lft (evE cl e env S) env fun w S => lft (ofO (bindT t w env S) S) env fun env S => .ok (.nx, env) S := by simp only [exS]
@[simp] theorem p_aug (o : BOp) (i : Nat) (e : E) : exS cl (.aug o i e) env S = lft (ofO (env[i]?.join) S) env fun x S => lft (evE cl e env S) env fun y S => lft (augW o x y S) env fun w S => .ok (.nx, env.set i (some w)) S := by simp only [exS]
@[simp] theorem p_setix (a i e : E) : exS cl (.setix a i e) env S = lft (evE cl e env S) env fun v S => lft (evE cl a env S) env fun x S => lft (evE cl i env S) env fun j S => lft (setixW x j v S) env fun _ S => .ok (.nx, env) S := by simp only [exS]
@[simp] theorem p_ex (e : E) : exS cl (.ex e) env S = lft (evE cl e env S) env fun _ S => .ok (.nx, env) S := by simp only [exS]
@[simp] theorem p_ret (e : E) : exS cl (.ret e) env S = lft (evE cl e env S) env fun w S => .ok (.ret w, env) S := by simp only [exS]
@[simp] theorem p_ifs (t : E) (a b : List C) : exS cl (.ifs t a b) env S = lft (evT cl t env S) env fun c S => if c then exSs cl a env S else exSs cl b env S := by simp only [exS]
@[simp] theorem p_snil : exSs cl [] env S = .ok (.nx, env) S := by simp only [exSs]
@[simp] theorem p_scons (c : C) (cs : List C) : exSs cl (c :: cs) env S = (exS cl c env S).bind fun p S => nxt p S fun env S => exSs cl cs env S := by simp only [exSs]; rfl
theorem p_for (t : Tg) (it : Ik) (is : List E) (a : List C) : exS cl (.forr t it is a) env S = lft (evEs cl is env S) env fun src S => lft (ofO (itW it src S) S) env fun items S =>
      forR (fun x env S => lft (ofO (bindT t x env S) S) env fun env S => exSs cl a env S) it src items items env S := by simp only [exS]
theorem p_lc (m : Bool) (t : Tg) (it : Ik) (is : List E) (c : List E) (e : E) (own : List Nat) : evE cl (.lc m t it is c e own) env S = (evEs cl is env S).bind fun src S => (ofO (itW it src S) S).bind fun items S =>
      (lcR (fun x S => (ofO (bindT t x (wipeE env own) S) S).bind fun env' S => (evTs cl c env' S).bind fun b S => if b then (evE cl e env' S).bind fun w S => .ok (some w) S else .ok none S) it src items items [] S).bind fun ws S =>
        if m then .ok (.loc S.length) (S ++ [.lst ws]) else (ofO (allD ws) S).bind fun ds S => .ok (.d (.lst ds)) S := by simp only [evE]
end
theorem run_at {P : Prg} {n f : Nat} {ws : List W} {S : Sto} {fn : Fn} (h : P[f]? = some fn) (hl : ws.length = fn.np) (h2 : fn.np ≤ fn.nl) :
    run P (n + 1) f ws S = (noexc (exSs (run P n) fn.body (ws.map some ++ List.replicate (fn.nl - fn.np) none) S)).bind fun p S => match p.1 with
        | .nx => .ok (.d .non) S
        | .ret w => .ok w S
        | .exc x => .exc x S
        | _ => .err := by
  simp only [run, h]
  exact if_pos ⟨hl, h2⟩
/-- a call's result -/
def fin (r : Pc.R (Fl × Pc.Env)) : Pc.R W := (noexc r).bind fun p S => match p.1 with
        | .nx => .ok (.d .non) S
        | .ret w => .ok w S
        | .exc x => .exc x S
        | _ => .err
@[simp] theorem fin_ret (w : W) (env : Pc.Env) (S : Sto) : fin (.ok (.ret w, env) S) = .ok w S := rfl
@[simp] theorem fin_nx (env : Pc.Env) (S : Sto) : fin (.ok (.nx, env) S) = .ok (.d .non) S := rfl
theorem run_fin {P : Prg} {n f : Nat} {ws : List W} {S : Sto} {fn : Fn} (h : P[f]? = some fn) (hl : ws.length = fn.np) (h2 : fn.np ≤ fn.nl) :
    run P (n + 1) f ws S = fin (exSs (run P n) fn.body (ws.map some ++ List.replicate (fn.nl - fn.np) none) S) := run_at h hl h2
/-- a call with data, by the body -/
theorem call_d {P : Prg} {n f : Nat} {ws : List W} {ds : List D} {S S1 : Sto} {fn : Fn} {w : W} {r : D} (h : P[f]? = some fn) (hl : ws.length = fn.np) (h2 : fn.np ≤ fn.nl) (h0 : allD ws = some ds)
    (hb : fin (exSs (run P n) fn.body (ws.map some ++ List.replicate (fn.nl - fn.np) none) []) = .ok w S1) (hr : rdD S1 w = some r) : callF (run P (n + 1)) f ws S = .ok (.d r) S := by
  unfold callF
  rw [h0]
  dsimp only
  rw [run_fin h hl h2, hb]
  dsimp only
  rw [hr]
  rfl
/-- a walk over data: all -/
theorem gR_all {b : W → Sto → Pc.R W} {k : Ik} {src all : List W} {p : W → Bool} {S : Sto} (hs : still k src all S) : ∀ {items : List W} {acc : Int}, (∀ x ∈ items, b x S = .ok (.d (.bl (p x))) S) → gR .all b k src all items acc S = .ok (.d (.bl (items.all p))) S
  | [], acc, _ => by
    simp only [gR]
    rw [if_pos hs]; rfl
  | x :: xs, acc, h => by
    simp only [gR]
    rw [if_pos hs, h x List.mem_cons_self]
    cases hp : p x with
    | true =>
      simp only [p_nox, p_bok, gStep]
      rw [gR_all hs (fun y hy => h y (List.mem_cons_of_mem _ hy)), List.all_cons, hp, Bool.true_and]
    | false =>
      simp only [p_nox, p_bok, gStep]
      rw [List.all_cons, hp, Bool.false_and]
/-- a walk over data: sum -/
theorem gR_sum {b : W → Sto → Pc.R W} {k : Ik} {src all : List W} {p : W → Int} {S : Sto} (B : Int) (hB : 0 ≤ B) (hs : still k src all S) : ∀ {items : List W} {acc : Int}, (∀ x ∈ items, b x S = .ok (.d (.int (p x))) S ∧ 0 ≤ p x ∧ p x ≤ B) → 0 ≤ acc → acc + B * items.length < 2 ^ 63 → B < 2 ^ 63 →
    gR .sum b k src all items acc S = .ok (.d (.int (acc + (items.map p).sum))) S
  | [], acc, _, _, _, _ => by
    simp only [gR]
    rw [if_pos hs]
    simp [gFin]
  | x :: xs, acc, h, h0, h1, h2 => by
    obtain ⟨e, q1, q2⟩ := h x List.mem_cons_self
    simp only [gR]
    rw [if_pos hs, e]
    simp only [p_nox, p_bok, gStep]
    rw [List.length_cons] at h1
    have h3 : acc + p x + B * (xs.length : Int) < 2 ^ 63 := by
      have e1 : B * ((xs.length + 1 : Nat) : Int) = B * (xs.length : Int) + B := by rw [Int.natCast_add, Int.mul_add]; omega
      rw [e1] at h1
      omega
    have h4 : 0 ≤ B * (xs.length : Int) := Int.mul_nonneg hB (Int.natCast_nonneg _)
    rw [if_pos ⟨⟨by omega, by omega⟩, by omega, by omega⟩]
    dsimp only
    rw [gR_sum B hB hs (fun y hy => h y (List.mem_cons_of_mem _ hy)) (by omega) h3 h2]
    rw [List.map_cons, List.sum_cons, Int.add_assoc]
section
variable {S : Sto} {i j : Int}
@[simp] theorem bw_add : binW .add (.d (.int i)) (.d (.int j)) S = .ok (.d (.int (i + j))) S := rfl
@[simp] theorem bw_sub : binW .sub (.d (.int i)) (.d (.int j)) S = .ok (.d (.int (i - j))) S := rfl
theorem mulOk_l (h1 : -(2 ^ 64) < i) (h2 : i < 2 ^ 64) : mulOk i j = true := by
  unfold mulOk
  exact decide_eq_true (.inl ⟨h1, h2⟩)
theorem mulOk_r (h1 : -(2 ^ 64) < j) (h2 : j < 2 ^ 64) : mulOk i j = true := by
  unfold mulOk
  exact decide_eq_true (.inr ⟨h1, h2⟩)
theorem bw_mul (h : mulOk i j = true) : binW .mul (.d (.int i)) (.d (.int j)) S = .ok (.d (.int (i * j))) S := by
  show (if mulOk i j then _ else _) = _
  rw [if_pos h]
theorem bw_fdiv (h1 : 0 < j) (h2 : j < 1073741824) : binW .fdiv (.d (.int i)) (.d (.int j)) S = .ok (.d (.int (i / j))) S := by
  show (if 0 < j ∧ j < 1073741824 then _ else _) = _
  rw [if_pos ⟨h1, h2⟩]
theorem bw_mod (h1 : 0 < j) : binW .mod (.d (.int i)) (.d (.int j)) S = .ok (.d (.int (i % j))) S := by
  show (if 0 < j then _ else _) = _
  rw [if_pos h1]
theorem bw_pow (h1 : 0 ≤ j) (h2 : j ≤ 1000000) (h3 : i.natAbs < 2 ^ 64) : binW .pow (.d (.int i)) (.d (.int j)) S = .ok (.d (.int (i ^ j.toNat))) S := by
  show (if 0 ≤ j ∧ j ≤ 1000000 ∧ i.natAbs < 2 ^ 64 then _ else _) = _
  rw [if_pos ⟨h1, h2, h3⟩]
@[simp] theorem aw_add : augW .add (.d (.int i)) (.d (.int j)) S = .ok (.d (.int (i + j))) S := rfl
@[simp] theorem aw_sub : augW .sub (.d (.int i)) (.d (.int j)) S = .ok (.d (.int (i - j))) S := rfl
@[simp] theorem cw_lt : cmpW .lt (.d (.int i)) (.d (.int j)) S = .ok (.d (.bl (decide (i < j)))) S := rfl
@[simp] theorem cw_le : cmpW .le (.d (.int i)) (.d (.int j)) S = .ok (.d (.bl (decide (i ≤ j)))) S := rfl
@[simp] theorem cw_gt : cmpW .gt (.d (.int i)) (.d (.int j)) S = .ok (.d (.bl (decide (j < i)))) S := rfl
@[simp] theorem cw_ge : cmpW .ge (.d (.int i)) (.d (.int j)) S = .ok (.d (.bl (decide (j ≤ i)))) S := rfl
@[simp] theorem cw_is (x : D) : cmpW .is (.d x) (.d .non) S = .ok (.d (.bl (isNon x))) S := by cases x <;> rfl
@[simp] theorem cw_nis (x : D) : cmpW .nis (.d x) (.d .non) S = .ok (.d (.bl (!isNon x))) S := by cases x <;> rfl
@[simp] theorem cw_eqi : cmpW .eq (.d (.int i)) (.d (.int j)) S = .ok (.d (.bl (i == j))) S := rfl
@[simp] theorem cw_nei : cmpW .ne (.d (.int i)) (.d (.int j)) S = .ok (.d (.bl (!(i == j)))) S := rfl
theorem cw_eq {x y : D} (hx : shp x = true) (hy : shp y = true) : cmpW .eq (.d x) (.d y) S = .ok (.d (.bl (eqD x y))) S := by
  have h : eqW (.d x) (.d y) S = some (eqD x y) := by
    unfold eqW
    split
    · rename_i h1 h2; cases h1; cases h2; simp only [eqD]
    · rename_i h1 h2; cases h1; cases h2; simp only [eqD]
    · simp only [rdD, hx, hy, Bool.and_self, if_true]
  have e : cmpW .eq (.d x) (.d y) S = (ofO (eqW (.d x) (.d y) S) S).bind fun b S => .ok (.d (.bl b)) S := by
    cases y <;> cases x <;> rfl
  rw [e, h]; rfl
theorem cw_ne {x y : D} (hx : shp x = true) (hy : shp y = true) : cmpW .ne (.d x) (.d y) S = .ok (.d (.bl (!eqD x y))) S := by
  have h : eqW (.d x) (.d y) S = some (eqD x y) := by
    unfold eqW
    split
    · rename_i h1 h2; cases h1; cases h2; simp only [eqD]
    · rename_i h1 h2; cases h1; cases h2; simp only [eqD]
    · simp only [rdD, hx, hy, Bool.and_self, if_true]
  have e : cmpW .ne (.d x) (.d y) S = (ofO (eqW (.d x) (.d y) S) S).bind fun b S => .ok (.d (.bl (!b))) S := by
    cases y <;> cases x <;> rfl
  rw [e, h]; rfl
end
/-! ### loops -/
theorem forR_inv {b : W → Pc.Env → Sto → Pc.R (Fl × Pc.Env)} {k : Ik} {src items : List W} {Iv : Nat → Pc.Env → Sto → Prop} {Er : W → Pc.Env → Sto → Prop} (hs : ∀ i e S, Iv i e S → still k src items S)
    (hstep : ∀ i x e S, items[i]? = some x → Iv i e S → (∃ e' S', b x e S = .ok (.nx, e') S' ∧ Iv (i + 1) e' S') ∨ (∃ w e' S', b x e S = .ok (.ret w, e') S' ∧ Er w e' S')) :
    ∀ (j i : Nat) (e : Pc.Env) (S : Sto), items.length - i = j → i ≤ items.length → Iv i e S →
      (∃ e' S', forR b k src items (items.drop i) e S = .ok (.nx, e') S' ∧ Iv items.length e' S') ∨ (∃ w e' S', forR b k src items (items.drop i) e S = .ok (.ret w, e') S' ∧ Er w e' S') := by
  intro j
  induction j with
  | zero =>
    intro i e S hj hi h
    have e1 : i = items.length := by omega
    subst e1
    rw [List.drop_length]
    left
    refine ⟨e, S, ?_, h⟩
    simp only [forR]
    rw [if_pos (hs _ _ _ h)]
  | succ j ih =>
    intro i e S hj hi h
    have hlt : i < items.length := by omega
    rw [List.drop_eq_getElem_cons hlt]
    simp only [forR]
    rw [if_pos (hs _ _ _ h)]
    rcases hstep i items[i] e S (List.getElem?_eq_getElem hlt) h with ⟨e', S', q, h'⟩ | ⟨w, e', S', q, h'⟩
    · rw [q]
      exact ih (i + 1) e' S' (by omega) hlt h'
    · rw [q]
      exact .inr ⟨w, e', S', rfl, h'⟩
/-- a for loop, from its beginning -/
theorem for_inv {cl : Call} {t : Tg} {it : Ik} {is : List E} {a : List C} {env : Pc.Env} {S S1 : Sto} {src items : List W} (h1 : evEs cl is env S = .ok src S1) (h2 : itW it src S1 = some items) {Iv : Nat → Pc.Env → Sto → Prop} {Er : W → Pc.Env → Sto → Prop} (h0 : Iv 0 env S1)
    (hs : ∀ i e S, Iv i e S → still it src items S)
    (hstep : ∀ i x e S, items[i]? = some x → Iv i e S → (∃ e' S', (lft (ofO (bindT t x e S) S) e fun env S => exSs cl a env S) = .ok (.nx, e') S' ∧ Iv (i + 1) e' S') ∨ (∃ w e' S', (lft (ofO (bindT t x e S) S) e fun env S => exSs cl a env S) = .ok (.ret w, e') S' ∧ Er w e' S')) :
    (∃ e' S', exS cl (.forr t it is a) env S = .ok (.nx, e') S' ∧ Iv items.length e' S') ∨ (∃ w e' S', exS cl (.forr t it is a) env S = .ok (.ret w, e') S' ∧ Er w e' S') := by
  rw [p_for, h1]
  simp only [p_lok, h2, p_ofs]
  have q := forR_inv hs hstep items.length 0 env S1 (Nat.sub_zero _) (Nat.zero_le _) h0
  rw [List.drop_zero] at q
  exact q
/-- a loop that always goes through -/
theorem for_all {cl : Call} {t : Tg} {it : Ik} {is : List E} {a : List C} {env : Pc.Env} {S S1 : Sto} {src items : List W} (h1 : evEs cl is env S = .ok src S1) (h2 : itW it src S1 = some items) {Iv : Nat → Pc.Env → Sto → Prop} (h0 : Iv 0 env S1)
    (hs : ∀ i e S, Iv i e S → still it src items S)
    (hstep : ∀ i x e S, items[i]? = some x → Iv i e S → ∃ e' S', (lft (ofO (bindT t x e S) S) e fun env S => exSs cl a env S) = .ok (.nx, e') S' ∧ Iv (i + 1) e' S') :
    ∃ e' S', exS cl (.forr t it is a) env S = .ok (.nx, e') S' ∧ Iv items.length e' S' := by
  rcases for_inv (Er := fun _ _ _ => False) h1 h2 h0 hs (fun i x e S hx h => .inl (hstep i x e S hx h)) with q | ⟨_, _, _, _, z⟩
  · exact q
  · exact z.elim
/-! ### while -/
theorem wh_mono {t : Pc.Env → Sto → Pc.R Bool} {b : Pc.Env → Sto → Pc.R (Fl × Pc.Env)} : ∀ {n m : Nat} {env : Pc.Env} {S : Sto}, wh t b n env S ≠ .err → n ≤ m → wh t b m env S = wh t b n env S
  | 0, m, env, S, h, _ => absurd rfl h
  | n + 1, 0, env, S, h, hm => absurd hm (by omega)
  | n + 1, m + 1, env, S, h, hm => by
    simp only [wh] at h ⊢
    cases ht : t env S with
    | err => rfl
    | exc x S1 => rfl
    | ok c S1 =>
      rw [ht] at h
      simp only [p_lok] at h ⊢
      cases c with
      | false => rfl
      | true =>
        simp only [if_true] at h ⊢
        cases hb : b env S1 with
        | err => rfl
        | exc x S2 => rfl
        | ok p S2 =>
          rw [hb] at h
          simp only [p_bok] at h ⊢
          obtain ⟨f, e2⟩ := p
          cases f with
          | nx => exact wh_mono h (by omega)
          | cont => exact wh_mono h (by omega)
          | brk => rfl
          | ret w => rfl
          | exc x => rfl
theorem whl_of {t : Pc.Env → Sto → Pc.R Bool} {b : Pc.Env → Sto → Pc.R (Fl × Pc.Env)} {n : Nat} {env : Pc.Env} {S : Sto} {r : Pc.R (Fl × Pc.Env)} (h : wh t b n env S = r) (hr : r ≠ .err) : whl t b env S = r := by
  have hx : ∃ n, wh t b n env S ≠ .err := ⟨n, by rw [h]; exact hr⟩
  unfold whl
  rw [dif_pos hx]
  have h1 := Classical.choose_spec hx
  rcases Nat.le_total n (Classical.choose hx) with z | z
  · rw [wh_mono (by rw [h]; exact hr) z, h]
  · rw [← h, wh_mono h1 z]
/-- a while loop by a measure -/
theorem whl_inv {t : Pc.Env → Sto → Pc.R Bool} {b : Pc.Env → Sto → Pc.R (Fl × Pc.Env)} {Iv : Nat → Pc.Env → Sto → Prop} {En : Pc.Env → Sto → Prop}
    (hstep : ∀ m e S, Iv m e S → (∃ e' S', t e S = .ok false S' ∧ e' = e ∧ En e' S') ∨ (∃ S1 e' S', t e S = .ok true S1 ∧ b e S1 = .ok (.nx, e') S' ∧ ∃ m', m' < m ∧ Iv m' e' S')) :
    ∀ (m : Nat) (e : Pc.Env) (S : Sto), Iv m e S → ∃ e' S', whl t b e S = .ok (.nx, e') S' ∧ En e' S' := by
  have key : ∀ (m : Nat) (e : Pc.Env) (S : Sto), Iv m e S → ∃ n e' S', wh t b n e S = .ok (.nx, e') S' ∧ En e' S' := by
    intro m
    induction m using Nat.strongRecOn with
    | _ m ih =>
      intro e S h
      rcases hstep m e S h with ⟨e', S', q, rfl, hE⟩ | ⟨S1, e', S', q1, q2, m', hm, h'⟩
      · exact ⟨1, e', S', by simp only [wh, q, p_lok]; rfl, hE⟩
      · obtain ⟨n, e2, S2, q3, hE⟩ := ih m' hm e' S' h'
        exact ⟨n + 1, e2, S2, by simp only [wh, q1, p_lok, if_true, q2, p_bok]; exact q3, hE⟩
  intro m e S h
  obtain ⟨n, e', S', q, hE⟩ := key m e S h
  exact ⟨e', S', whl_of q (fun z => by cases z), hE⟩
theorem p_whil {cl : Call} (t : E) (a : List C) (env : Pc.Env) (S : Sto) : exS cl (.whil t a) env S = whl (fun env S => evT cl t env S) (fun env S => exSs cl a env S) env S := by simp only [exS]
/-- a for loop within what is wanted -/
theorem use_for {cl : Call} {t : Tg} {it : Ik} {is : List E} {a : List C} {env : Pc.Env} {S S1 : Sto} {src items : List W} {K : Fl × Pc.Env → Sto → Pc.R (Fl × Pc.Env)} (P : Pc.R (Fl × Pc.Env) → Prop) (Iv : Nat → Pc.Env → Sto → Prop) (Er : W → Pc.Env → Sto → Prop)
    (h1 : evEs cl is env S = .ok src S1) (h2 : itW it src S1 = some items) (h0 : Iv 0 env S1) (hs : ∀ i e S, Iv i e S → still it src items S)
    (hstep : ∀ i x e S, items[i]? = some x → Iv i e S → (∃ e' S', (lft (ofO (bindT t x e S) S) e fun env S => exSs cl a env S) = .ok (.nx, e') S' ∧ Iv (i + 1) e' S') ∨ (∃ w e' S', (lft (ofO (bindT t x e S) S) e fun env S => exSs cl a env S) = .ok (.ret w, e') S' ∧ Er w e' S'))
    (hend : ∀ e' S', Iv items.length e' S' → P (K (.nx, e') S')) (hret : ∀ w e' S', Er w e' S' → P (K (.ret w, e') S')) : P ((exS cl (.forr t it is a) env S).bind K) := by
  rcases for_inv h1 h2 h0 hs hstep with ⟨e', S', q, h⟩ | ⟨w, e', S', q, h⟩
  · rw [q]; exact hend e' S' h
  · rw [q]; exact hret w e' S' h
theorem use_all {cl : Call} {t : Tg} {it : Ik} {is : List E} {a : List C} {env : Pc.Env} {S S1 : Sto} {src items : List W} {K : Fl × Pc.Env → Sto → Pc.R (Fl × Pc.Env)} (P : Pc.R (Fl × Pc.Env) → Prop) (Iv : Nat → Pc.Env → Sto → Prop)
    (h1 : evEs cl is env S = .ok src S1) (h2 : itW it src S1 = some items) (h0 : Iv 0 env S1) (hs : ∀ i e S, Iv i e S → still it src items S)
    (hstep : ∀ i x e S, items[i]? = some x → Iv i e S → ∃ e' S', (lft (ofO (bindT t x e S) S) e fun env S => exSs cl a env S) = .ok (.nx, e') S' ∧ Iv (i + 1) e' S')
    (hend : ∀ e' S', Iv items.length e' S' → P (K (.nx, e') S')) : P ((exS cl (.forr t it is a) env S).bind K) := by
  obtain ⟨e', S', q, h⟩ := for_all h1 h2 h0 hs hstep
  rw [q]; exact hend e' S' h
theorem use_whl {cl : Call} {t : E} {a : List C} {env : Pc.Env} {S : Sto} {K : Fl × Pc.Env → Sto → Pc.R (Fl × Pc.Env)} (P : Pc.R (Fl × Pc.Env) → Prop) (Iv : Nat → Pc.Env → Sto → Prop) (En : Pc.Env → Sto → Prop) (m : Nat) (h0 : Iv m env S)
    (hstep : ∀ m e S, Iv m e S → (∃ e' S', evT cl t e S = .ok false S' ∧ e' = e ∧ En e' S') ∨ (∃ S1 e' S', evT cl t e S = .ok true S1 ∧ exSs cl a e S1 = .ok (.nx, e') S' ∧ ∃ m', m' < m ∧ Iv m' e' S'))
    (hend : ∀ e' S', En e' S' → P (K (.nx, e') S')) : P ((exS cl (.whil t a) env S).bind K) := by
  rw [p_whil]
  obtain ⟨e', S', q, h⟩ := whl_inv (t := fun env S => evT cl t env S) (b := fun env S => exSs cl a env S) hstep m env S h0
  rw [q]; exact hend e' S' h
end Pc
set_option Elab.async false
set_option linter.all false
set_option maxRecDepth 100000
set_option autoImplicit false
set_option maxHeartbeats 1000000
/-! PcL: what the laws draw from their script -/
namespace Pc
open PySem L2
def cNext : List C := [
  .asg (.nm 2) (.ix (.var 0) (.k (.str "at"))),
  .setix (.var 0) (.k (.str "at")) (.bin .add (.var 2) (.k (.int 1))),
  .asg (.nm 3) (.ix (.ix (.var 0) (.k (.str "row"))) (.bin .mod (.var 2) (.bi .len [.ix (.var 0) (.k (.str "row"))]))),
  .ret (.bin .mod (.bi .int [.bin .add (.var 3) (.bin .mul (.k (.int 7919)) (.bin .fdiv (.var 2) (.bi .len [.ix (.var 0) (.k (.str "row"))])))]) (.var 1))]
def cDraws : List C := [
  .asg (.nm 3) (.var 0),
  .ifs (.cmp .lt (.var 3) (.k (.int 0))) [
    .asg (.nm 3) (.bin .sub (.bin .sub (.k (.int 0)) (.k (.int 1))) (.var 3))] [],
  .asg (.nm 4) (.lst true []),
  .ifs (.cmp .ge (.var 3) (.bin .pow (.k (.int 10)) (.k (.int 18)))) [
    .forr (.nm 5) .rng1 [.var 2] [
      .ex (.bm .append (.var 4) [.bin .mod (.bi .int [.var 3]) (.var 1)]),
      .asg (.nm 3) (.bin .fdiv (.var 3) (.var 1))],
    .ret (.var 4)] [],
  .forr (.nm 5) .rng1 [.var 2] [
    .asg (.nm 6) (.bin .mod (.bi .int [.bin .mul (.bin .add (.bin .add (.var 3) (.bin .mul (.k (.int 7)) (.var 5))) (.k (.int 1))) (.k (.int 48271))]) (.k (.int 2147483647))),
    .asg (.nm 6) (.bin .mod (.bi .int [.bin .add (.bin .mul (.var 6) (.k (.int 69621))) (.bin .mul (.k (.int 31)) (.var 5))]) (.k (.int 2147483629))),
    .ex (.bm .append (.var 4) [.bin .mod (.bi .int [.bin .fdiv (.var 6) (.k (.int 7))]) (.var 1)])],
  .ret (.var 4)]
def cBox (f : Nat) : List C := [
  .asg (.nm 1) (.lst false []),
  .forr (.nm 2) .seq [.var 0] [
    .asg (.nm 1) (.bin .add (.var 1) (.call false f [.var 2, .k (.int 1000003), .k (.int 6)]))],
  .ifs (.cmp .eq (.bi .len [.var 1]) (.k (.int 0))) [
    .asg (.nm 1) (.lst false [.k (.int 11), .k (.int 5), .k (.int 2), .k (.int 7), .k (.int 31), .k (.int 101), .k (.int 997)])] [],
  .ret (.dct [.inr "row", .inr "at"] [.var 1, .k (.int 0)])]
def bx (row : List Int) (at_ : Int) : Cell := .dct [(.inr "row", .d (.lst (row.map .int))), (.inr "at", .d (.int at_))]
section
variable {row : List Int} {a : Int}
theorem bx_at : ixW (.loc 0) (.d (.str "at")) [bx row a] = .ok (.d (.int a)) [bx row a] := rfl
theorem bx_row : ixW (.loc 0) (.d (.str "row")) [bx row a] = .ok (.d (.lst (row.map .int))) [bx row a] := rfl
theorem bx_set (b : Int) : setixW (.loc 0) (.d (.str "at")) (.d (.int b)) [bx row a] = .ok () [bx row b] := rfl
theorem len_ints (ms : List Int) (S : Sto) : biW .len [.d (.lst (ms.map .int))] S = .ok (.d (.int ms.length)) S := by simp [biW, seqOf]
theorem ix_ints {ms : List Int} {i : Int} (S : Sto) (h0 : 0 ≤ i) (h1 : i < ms.length) : ∃ v, ixW (.d (.lst (ms.map .int))) (.d (.int i)) S = .ok (.d (.int v)) S := by
  have hlt : i.toNat < ms.length := by omega
  refine ⟨ms[i.toNat], ?_⟩
  simp [ixW, seqOf, atW, h0, List.getElem?_map, List.getElem?_eq_getElem hlt]
theorem bi_int (i : Int) (S : Sto) : biW .int [.d (.int i)] S = .ok (.d (.int i)) S := rfl
/-- a draw -/
theorem next_ok {P : Prg} {f n : Nat} (h : P[f]? = some ⟨2, 4, cNext⟩) {m : Int} (hr : row ≠ []) (hl : row.length < 1073741824) (ha : 0 ≤ a) (hm : 0 < m) :
    ∃ v, 0 ≤ v ∧ v < m ∧ callF (run P (n + 1)) f [.loc 0, .d (.int m)] [bx row a] = .ok (.d (.int v)) [bx row (a + 1)] := by
  have hp : 0 < row.length := List.length_pos_iff.mpr hr
  have hp' : (0 : Int) < row.length := by omega
  obtain ⟨v0, hv⟩ := ix_ints (ms := row) (i := a % row.length) [bx row (a + 1)] (Int.emod_nonneg _ (by omega)) (Int.emod_lt_of_pos _ hp')
  refine ⟨(v0 + 7919 * (a / row.length)) % m, Int.emod_nonneg _ (by omega), Int.emod_lt_of_pos _ hm, ?_⟩
  have e : run P (n + 1) f [.loc 0, .d (.int m)] [bx row a] = .ok (.d (.int ((v0 + 7919 * (a / row.length)) % m))) [bx row (a + 1)] := by
    rw [run_fin h rfl (by decide)]
    simp [cNext, bx_at, bindT, bx_set, bx_row, len_ints]
    rw [bw_mod hp']
    simp [hv, bx_row, len_ints]
    rw [bw_fdiv hp' (by omega)]
    simp
    rw [bw_mul (mulOk_l (by decide) (by decide))]
    simp [bi_int]
    rw [bw_mod hm]
    simp
  unfold callF
  rw [show allD [.loc 0, .d (.int m)] = none from rfl]
  dsimp only
  rw [e]
  rfl
theorem ap_ints (ms : List W) (w : W) (h : ms.length < maxLen) : bmW .append (.loc 0) [w] [.lst ms] = .ok (.d .non) [.lst (ms ++ [w])] := by
  show (if ms.length < maxLen then _ else _) = _
  rw [if_pos h]; rfl
theorem rng_at {k i : Nat} {w : W} (h : ((List.range k).map fun (j : Nat) => W.d (.int j))[i]? = some w) : w = .d (.int i) ∧ i < k := by
  rw [List.getElem?_map] at h
  cases hq : (List.range k)[i]? with
  | none => rw [hq] at h; cases h
  | some j =>
    rw [hq] at h
    obtain ⟨h1, h2⟩ := List.getElem?_eq_some_iff.mp hq
    rw [List.getElem_range] at h2
    rw [List.length_range] at h1
    subst h2
    exact ⟨(Option.some.inj h).symm, h1⟩
theorem ints_snoc (ms : List Int) (v : Int) : (ms.map fun i => W.d (.int i)) ++ [.d (.int v)] = (ms ++ [v]).map fun i => W.d (.int i) := by simp
theorem allD_ints : ∀ ms : List Int, allD (ms.map fun i => W.d (.int i)) = some (ms.map .int)
  | [] => rfl
  | m :: ms => by simp only [List.map_cons, allD, allD_ints ms]; rfl
theorem draws_ok {P : Prg} {f n : Nat} (h : P[f]? = some ⟨3, 7, cDraws⟩) (z : Int) (S : Sto) : ∃ row : List Int, row.length = 6 ∧ callF (run P (n + 1)) f [.d (.int z), .d (.int 1000003), .d (.int 6)] S = .ok (.d (.lst (row.map .int))) S := by
  have fin6 : ∀ {S1 : Sto} {ms : List Int}, S1 = [.lst (ms.map fun i => W.d (.int i))] → rdD S1 (.loc 0) = some (.lst (ms.map .int)) := fun {S1 ms} e => by
    subst e
    show (allD (ms.map fun i => W.d (.int i))).map D.lst = _
    rw [allD_ints]; rfl
  have main : ∃ row : List Int, row.length = 6 ∧ fin (exSs (run P n) cDraws [some (.d (.int z)), some (.d (.int 1000003)), some (.d (.int 6)), none, none, none, none] []) = .ok (.loc 0) [.lst (row.map fun i => W.d (.int i))] := by
    obtain ⟨z', hz⟩ : ∃ z' : Int, exS (run P n) (.ifs (.cmp .lt (.var 3) (.k (.int 0))) [.asg (.nm 3) (.bin .sub (.bin .sub (.k (.int 0)) (.k (.int 1))) (.var 3))] []) [some (.d (.int z)), some (.d (.int 1000003)), some (.d (.int 6)), some (.d (.int z)), none, none, none] [] =
        .ok (.nx, [some (.d (.int z)), some (.d (.int 1000003)), some (.d (.int 6)), some (.d (.int z')), none, none, none]) [] := by
      by_cases hz : z < 0
      · exact ⟨0 - 1 - z, by simp [hz, bindT]⟩
      · exact ⟨z, by simp [hz]⟩
    unfold cDraws
    rw [p_scons]
    simp only [p_asg, p_var, List.getElem?_cons_zero, Option.join_some, p_ofs, p_lok, bindT, List.set_cons_succ, List.set_cons_zero, p_bok, nxt_nx]
    rw [p_scons, hz]
    simp [bindT]
    rw [bw_pow (by decide) (by decide) (by decide)]
    simp only [p_bok, cw_ge, p_tbl, p_ofs, p_lok]
    rw [show (10 : Int) ^ (18 : Int).toNat = 1000000000000000000 from by decide]
    by_cases hq : (1000000000000000000 : Int) ≤ z'
    · simp [hq]
      refine use_all (fun r => ∃ row : List Int, row.length = 6 ∧ fin (r.bind fun p S => nxt p S _) = .ok (.loc 0) [.lst (row.map fun i => W.d (.int i))]) (fun i e S => ∃ ms : List Int, ms.length = i ∧ S = [.lst (ms.map fun i => W.d (.int i))] ∧ ∃ y v5, e = [some (.d (.int z)), some (.d (.int 1000003)), some (.d (.int 6)), some (.d (.int y)), some (.loc 0), v5, none])
        (src := [.d (.int 6)]) (items := (List.range 6).map fun (j : Nat) => .d (.int j)) (S1 := [.lst []]) (by simp) rfl ⟨[], rfl, rfl, z', none, rfl⟩ (fun _ _ _ _ => by exact True.intro) (fun i x e S hx hI => ?_) (fun e' S' hI => ?_)
      · obtain ⟨ms, hlen, rfl, y, v5, rfl⟩ := hI
        obtain ⟨rfl, hi⟩ := rng_at hx
        refine ⟨[some (.d (.int z)), some (.d (.int 1000003)), some (.d (.int 6)), some (.d (.int (y / 1000003))), some (.loc 0), some (.d (.int i)), none], [.lst ((ms ++ [y % 1000003]).map fun i => W.d (.int i))], ?_, ms ++ [y % 1000003], by simp [hlen], rfl, _, _, rfl⟩
        simp [bindT, recvOk, bi_int]
        rw [bw_mod (by decide)]
        simp only [p_bok]
        rw [ap_ints _ _ (by rw [List.length_map, hlen]; exact Nat.lt_trans hi (by decide))]
        simp
        rw [bw_fdiv (by decide) (by decide)]
        simp
      · obtain ⟨ms, hlen, rfl, y, v5, rfl⟩ := hI
        exact ⟨ms, by simpa using hlen, by simp⟩
    · simp [hq]
      refine use_all (fun r => ∃ row : List Int, row.length = 6 ∧ fin r = .ok (.loc 0) [.lst (row.map fun i => W.d (.int i))]) (fun i e S => ∃ ms : List Int, ms.length = i ∧ S = [.lst (ms.map fun i => W.d (.int i))] ∧ ∃ v5 v6, e = [some (.d (.int z)), some (.d (.int 1000003)), some (.d (.int 6)), some (.d (.int z')), some (.loc 0), v5, v6])
        (src := [.d (.int 6)]) (items := (List.range 6).map fun (j : Nat) => .d (.int j)) (S1 := [.lst []]) (by simp) rfl ⟨[], rfl, rfl, none, none, rfl⟩ (fun _ _ _ _ => by exact True.intro) (fun i x e S hx hI => ?_) (fun e' S' hI => ?_)
      · obtain ⟨ms, hlen, rfl, v5, v6, rfl⟩ := hI
        obtain ⟨rfl, hi⟩ := rng_at hx
        obtain ⟨m1, hm1⟩ : ∃ m1 : Int, m1 = (z' + 7 * (i : Int) + 1) * 48271 % 2147483647 := ⟨_, rfl⟩
        obtain ⟨m2, hm2⟩ : ∃ m2 : Int, m2 = (m1 * 69621 + 31 * (i : Int)) % 2147483629 := ⟨_, rfl⟩
        refine ⟨[some (.d (.int z)), some (.d (.int 1000003)), some (.d (.int 6)), some (.d (.int z')), some (.loc 0), some (.d (.int i)), some (.d (.int m2))], [.lst ((ms ++ [m2 / 7 % 1000003]).map fun i => W.d (.int i))], ?_, ms ++ [m2 / 7 % 1000003], by simp [hlen], rfl, _, _, rfl⟩
        have q1 : ∀ S, binW .mul (.d (.int 7)) (.d (.int i)) S = .ok (.d (.int (7 * i))) S := fun S => bw_mul (mulOk_l (by decide) (by decide))
        have q2 : ∀ S, binW .mul (.d (.int (z' + 7 * (i : Int) + 1))) (.d (.int 48271)) S = .ok (.d (.int ((z' + 7 * (i : Int) + 1) * 48271))) S := fun S => bw_mul (mulOk_r (by decide) (by decide))
        have q3 : ∀ S, binW .mod (.d (.int ((z' + 7 * (i : Int) + 1) * 48271))) (.d (.int 2147483647)) S = .ok (.d (.int m1)) S := fun S => by rw [bw_mod (by decide), hm1]
        have q4 : ∀ S, binW .mul (.d (.int m1)) (.d (.int 69621)) S = .ok (.d (.int (m1 * 69621))) S := fun S => bw_mul (mulOk_r (by decide) (by decide))
        have q5 : ∀ S, binW .mul (.d (.int 31)) (.d (.int i)) S = .ok (.d (.int (31 * i))) S := fun S => bw_mul (mulOk_l (by decide) (by decide))
        have q6 : ∀ S, binW .mod (.d (.int (m1 * 69621 + 31 * (i : Int)))) (.d (.int 2147483629)) S = .ok (.d (.int m2)) S := fun S => by rw [bw_mod (by decide), hm2]
        have q7 : ∀ S, binW .fdiv (.d (.int m2)) (.d (.int 7)) S = .ok (.d (.int (m2 / 7))) S := fun S => bw_fdiv (by decide) (by decide)
        have q8 : ∀ S, binW .mod (.d (.int (m2 / 7))) (.d (.int 1000003)) S = .ok (.d (.int (m2 / 7 % 1000003))) S := fun S => bw_mod (by decide)
        simp [bindT, recvOk, bi_int, q1, q2, q3, q4, q5, q6, q7, q8]
        rw [ap_ints _ _ (by rw [List.length_map, hlen]; exact Nat.lt_trans hi (by decide))]
        simp
      · obtain ⟨ms, hlen, rfl, v5, v6, rfl⟩ := hI
        exact ⟨ms, by simpa using hlen, by simp⟩
  obtain ⟨row, hl, e⟩ := main
  exact ⟨row, hl, call_d h rfl (by decide) rfl e (fin6 rfl)⟩
theorem itW_of {x : D} {items : List W} (S : Sto) (h : seqOf S (.d x) = some items) : itW .seq [.d x] S = some items := by
  cases x <;> first | (simp [seqOf] at h; done) | exact h
theorem box_ok {P : Prg} {f fd n : Nat} (h : P[f]? = some ⟨1, 3, cBox fd⟩) (hd : P[fd]? = some ⟨3, 7, cDraws⟩) {x : D} {ns : List Int} (hl : ns.length ≤ 63) (hs : ∀ S, seqOf S (.d x) = some (ns.map fun i => .d (.int i))) :
    ∃ row, row ≠ [] ∧ row.length ≤ 400 ∧ callN (run P (n + 2)) f [.d x] [] = .ok (.loc 0) [bx row 0] := by
  have main : ∃ row, row ≠ [] ∧ row.length ≤ 400 ∧ fin (exSs (run P (n + 1)) (cBox fd) [some (.d x), none, none] []) = .ok (.loc 0) [bx row 0] := by
    simp [cBox, bindT, allD]
    refine use_all (fun r => ∃ row : List Int, row ≠ [] ∧ row.length ≤ 400 ∧ fin r = .ok (.loc 0) [bx row 0]) (fun i e S => S = [] ∧ ∃ (ms : List Int) (v2 : Option W), ms.length = 6 * i ∧ e = [some (.d x), some (.d (.lst (ms.map .int))), v2])
      (src := [.d x]) (items := ns.map fun i => .d (.int i)) (S1 := []) (by simp) (itW_of _ (hs _)) ⟨rfl, [], none, rfl, rfl⟩ (fun _ _ _ _ => True.intro) (fun i y e S hx hI => ?_) (fun e' S' hI => ?_)
    · obtain ⟨rfl, ms, v2, hlen, rfl⟩ := hI
      rw [List.getElem?_map] at hx
      cases hq : ns[i]? with
      | none => rw [hq] at hx; cases hx
      | some z =>
        rw [hq] at hx
        have hx : y = .d (.int z) := (Option.some.inj hx).symm
        subst hx
        have hi := (List.getElem?_eq_some_iff.mp hq).1
        obtain ⟨row, hr, e1⟩ := draws_ok (n := n) hd z []
        refine ⟨[some (.d x), some (.d (.lst ((ms ++ row).map .int))), some (.d (.int z))], [], ?_, rfl, ms ++ row, _, by rw [List.length_append, hlen, hr]; omega, rfl⟩
        simp [bindT, e1]
        have e2 : binW .add (.d (.lst (ms.map .int))) (.d (.lst (row.map .int))) [] = .ok (.d (.lst (ms.map .int ++ row.map .int))) [] := by
          show (if (ms.map D.int).length + (row.map D.int).length ≤ maxLen then _ else _) = _
          rw [if_pos (by rw [List.length_map, List.length_map, hlen, hr]; exact Nat.le_trans (show 6 * i + 6 ≤ 400 by omega) (by decide))]
        rw [e2]
        simp
    · obtain ⟨rfl, ms, v2, hlen, rfl⟩ := hI
      rw [List.length_map] at hlen
      by_cases hz : ms = []
      · subst hz
        refine ⟨[11, 5, 2, 7, 31, 101, 997], by simp, by simp, ?_⟩
        simp [len_ints, bindT, allD, biW, seqOf]
        rfl
      · refine ⟨ms, hz, by omega, ?_⟩
        have h0 : ((ms.length : Int) == 0) = false := by
          rw [beq_eq_false_iff_ne]
          have := List.length_pos_iff.mpr hz
          omega
        simp [len_ints, h0]
        rfl
  obtain ⟨row, h1, h2, e⟩ := main
  refine ⟨row, h1, h2, ?_⟩
  unfold callN
  rw [show allD [.d x] = some [x] from rfl]
  dsimp only
  rw [run_fin h rfl (by show (1 : Nat) ≤ 3; decide)]
  show (match fin (exSs (run P (n + 1)) (cBox fd) [some (.d x), none, none] []) with | .ok (.loc n) S1 => _ | .ok _ _ => _ | .exc x _ => _ | .err => _) = _
  rw [e]
  rfl
/-! ### list comprehensions -/
theorem lcR_inv {b : W → Sto → Pc.R (Option W)} {k : Ik} {src items : List W} {Iv : Nat → List D → Sto → Prop} (hm : items.length ≤ maxLen) (hlen : ∀ i acc S, Iv i acc S → acc.length = i) (hs : ∀ i acc S, Iv i acc S → still k src items S)
    (hstep : ∀ i x acc S, items[i]? = some x → Iv i acc S → ∃ d S', b x S = .ok (some (.d d)) S' ∧ Iv (i + 1) (acc ++ [d]) S') :
    ∀ (j i : Nat) (acc : List D) (S : Sto), items.length - i = j → i ≤ items.length → Iv i acc S → ∃ ds S', lcR b k src items (items.drop i) (acc.map .d) S = .ok (ds.map .d) S' ∧ Iv items.length ds S' := by
  intro j
  induction j with
  | zero =>
    intro i acc S hj hi h
    have e1 : i = items.length := by omega
    subst e1
    rw [List.drop_length]
    refine ⟨acc, S, ?_, h⟩
    simp only [lcR]
    rw [if_pos (hs _ _ _ h)]
  | succ j ih =>
    intro i acc S hj hi h
    have hlt : i < items.length := by omega
    rw [List.drop_eq_getElem_cons hlt]
    simp only [lcR]
    rw [if_pos (hs _ _ _ h)]
    obtain ⟨d, S', q, h'⟩ := hstep i items[i] acc S (List.getElem?_eq_getElem hlt) h
    rw [q]
    simp only [p_nox, p_bok]
    rw [if_pos (by rw [List.length_map, hlen _ _ _ h]; omega)]
    have e2 : acc.map W.d ++ [.d d] = (acc ++ [d]).map W.d := by simp
    rw [e2]
    exact ih (i + 1) (acc ++ [d]) S' (by omega) hlt h'
theorem allD_ds : ∀ ds : List D, allD (ds.map .d) = some ds
  | [] => rfl
  | d :: ds => by simp only [List.map_cons, allD, allD_ds ds]; rfl
/-- [e for x in range(k)] -/
theorem lc_rng1 {cl : Call} {j : Nat} {ea e : E} {own : List Nat} {env : Pc.Env} {S S1 : Sto} {k : Int} (Iv : Nat → List D → Sto → Prop) (h1 : evE cl ea env S = .ok (.d (.int k)) S1) (hk : k ≤ 16777216) (hk0 : 0 ≤ k) (h0 : Iv 0 [] S1) (hlen : ∀ i acc S, Iv i acc S → acc.length = i)
    (hstep : ∀ (i : Nat) acc S, (i : Int) < k → Iv i acc S → ∃ d S', evE cl e ((wipeE env own).set j (some (.d (.int i)))) S = .ok (.d d) S' ∧ Iv (i + 1) (acc ++ [d]) S') :
    ∃ ds S', evE cl (.lc false (.nm j) .rng1 [ea] [] e own) env S = .ok (.d (.lst ds)) S' ∧ Iv k.toNat ds S' := by
  rw [p_lc]
  simp only [p_cons, h1, p_bok, p_nil]
  have e1 : itW .rng1 [.d (.int k)] S1 = some ((List.range k.toNat).map fun (i : Nat) => .d (.int i)) := by
    show (if -(2 ^ 60) < k ∧ k < 2 ^ 60 then _ else _) = _
    rw [if_pos ⟨by omega, by omega⟩]
  rw [e1]
  simp only [p_ofs, p_bok]
  have hl : ((List.range k.toNat).map fun (i : Nat) => W.d (.int i)).length = k.toNat := by simp
  obtain ⟨ds, S', q, h'⟩ := lcR_inv (b := fun x S => (ofO (bindT (.nm j) x (wipeE env own) S) S).bind fun env' S => (evTs cl [] env' S).bind fun b S => if b then (evE cl e env' S).bind fun w S => .ok (some w) S else .ok none S) (k := .rng1) (src := [.d (.int k)]) (items := (List.range k.toNat).map fun (i : Nat) => .d (.int i))
    (Iv := Iv) (by rw [hl]; show k.toNat ≤ 16777216; omega) hlen (fun _ _ _ _ => True.intro) (fun i x acc S hx hI => by
      obtain ⟨rfl, hi⟩ := rng_at hx
      obtain ⟨d, S', q, h'⟩ := hstep i acc S (by omega) hI
      exact ⟨d, S', by simp [bindT, q], h'⟩) k.toNat 0 [] S1 (by rw [hl]; omega) (Nat.zero_le _) h0
  rw [List.drop_zero] at q
  rw [hl] at h'
  refine ⟨ds, S', ?_, h'⟩
  have q : lcR _ .rng1 [.d (.int k)] _ _ [] S1 = _ := q
  rw [q]
  simp [allD_ds]
end
end Pc
set_option Elab.async false
set_option linter.all false
set_option maxRecDepth 100000
set_option autoImplicit false
/-! the codes of law_k01_faults_of_calendars, printed by gen.py -/
namespace K01
open Pc
def g_GREGORIAN : D := .tup [.tup [.int 31, .int 28, .int 31, .int 30, .int 31, .int 30, .int 31, .int 31, .int 30, .int 31, .int 30, .int 31], .int 2, .int 1, .tup [.tup [.int 4, .bl true], .tup [.int 100, .bl false], .tup [.int 400, .bl true]], .int 7, .int 5, .int 1440]
def g_MOST_CYCLE : D := .int 400000
/-- is_integer -/
def c_is_integer : List C := [
  .ret (.and (.bi (.isinst .int) [.var 0]) (.and (.not (.bi (.isinst .bool) [.var 0])) (.chn .le .le (.var 1) (.var 0) (.var 2))))]
/-- common_multiple -/
def c_common_multiple : List C := [
  .ret (.bin .mul (.bin .fdiv (.var 0) (.bi .gcd [.var 0, .var 1])) (.var 1))]
/-- fine_months -/
def c_fine_months : List C := [
  .ifs (.or (.not (.bi (.isinst .tuple) [.var 0])) (.not (.chn .le .le (.k (.int 1)) (.bi .len [.var 0]) (.k (.int 24))))) [
    .ret (.k (.bl false))] [],
  .ret (.gx .all (.nm 1) .seq [.var 0] (.call false 0 [.var 1, .k (.int 1), .k (.int 60)]) [1])]
/-- fine_rules -/
def c_fine_rules : List C := [
  .ifs (.or (.not (.bi (.isinst .tuple) [.var 0])) (.cmp .gt (.bi .len [.var 0]) (.k (.int 6)))) [
    .ret (.k (.bl false))] [],
  .forr (.nm 1) .seq [.var 0] [
    .ifs (.or (.not (.bi (.isinst .tuple) [.var 1])) (.cmp .ne (.bi .len [.var 1]) (.k (.int 2)))) [
      .ret (.k (.bl false))] [],
    .ifs (.or (.not (.call false 0 [.ix (.var 1) (.k (.int 0)), .k (.int 1), .k (.int 1000)])) (.not (.bi (.isinst .bool) [.ix (.var 1) (.k (.int 1))]))) [
      .ret (.k (.bl false))] []],
  .ret (.k (.bl true))]
/-- calendar_fault -/
def c_calendar_fault : List C := [
  .asg (.tup [1, 2, 3, 4, 5, 6, 7]) (.var 0),
  .ifs (.not (.call false 2 [.var 1])) [
    .ret (.k (.str "months"))] [],
  .ifs (.not (.call false 0 [.var 2, .k (.int 1), .bi .len [.var 1]])) [
    .ret (.k (.str "longer"))] [],
  .ifs (.not (.call false 0 [.var 3, .k (.int 0), .k (.int 30)])) [
    .ret (.k (.str "extra"))] [],
  .ifs (.not (.call false 3 [.var 4])) [
    .ret (.k (.str "rules"))] [],
  .ifs (.not (.call false 0 [.var 5, .k (.int 1), .k (.int 14)])) [
    .ret (.k (.str "week"))] [],
  .ifs (.not (.call false 0 [.var 6, .k (.int 0), .bin .sub (.var 5) (.k (.int 1))])) [
    .ret (.k (.str "first"))] [],
  .ifs (.not (.call false 0 [.var 7, .k (.int 1), .k (.int 2000)])) [
    .ret (.k (.str "minutes"))] [],
  .ifs (.call false 5 [.var 0]) [
    .ret (.k (.str "cycle"))] [],
  .ret (.k (.non))]
/-- is_cycle_long -/
def c_is_cycle_long : List C := [
  .asg (.nm 1) (.call false 6 [.var 0]),
  .ifs (.cmp .gt (.var 1) (.k g_MOST_CYCLE)) [
    .ret (.k (.bl true))] [],
  .asg (.nm 2) (.gx .sum (.nm 3) .rng1 [.var 1] (.call false 8 [.var 0, .var 3]) [3]),
  .ret (.cmp .gt (.call false 1 [.var 2, .ix (.var 0) (.k (.int 4))]) (.k g_MOST_CYCLE))]
/-- cycle_years -/
def c_cycle_years : List C := [
  .asg (.nm 1) (.k (.int 1)),
  .forr (.tup [2, 3]) .seq [.ix (.var 0) (.k (.int 3))] [
    .asg (.nm 1) (.call false 1 [.var 1, .var 2])],
  .ret (.var 1)]
/-- is_long -/
def c_is_long : List C := [
  .asg (.nm 2) (.k (.bl false)),
  .forr (.tup [3, 4]) .seq [.ix (.var 0) (.k (.int 3))] [
    .ifs (.cmp .eq (.bin .mod (.var 1) (.var 3)) (.k (.int 0))) [
      .asg (.nm 2) (.var 4)] []],
  .ret (.var 2)]
/-- year_length -/
def c_year_length : List C := [
  .ret (.bin .add (.bi .sum [.ix (.var 0) (.k (.int 0))]) (.ife (.call false 7 [.var 0, .var 1]) (.ix (.var 0) (.k (.int 2))) (.k (.int 0))))]
/-- _law_draws -/
def c_law_draws : List C := [
  .asg (.nm 3) (.var 0),
  .ifs (.cmp .lt (.var 3) (.k (.int 0))) [
    .asg (.nm 3) (.bin .sub (.bin .sub (.k (.int 0)) (.k (.int 1))) (.var 3))] [],
  .asg (.nm 4) (.lst true []),
  .ifs (.cmp .ge (.var 3) (.bin .pow (.k (.int 10)) (.k (.int 18)))) [
    .forr (.nm 5) .rng1 [.var 2] [
      .ex (.bm .append (.var 4) [.bin .mod (.bi .int [.var 3]) (.var 1)]),
      .asg (.nm 3) (.bin .fdiv (.var 3) (.var 1))],
    .ret (.var 4)] [],
  .forr (.nm 5) .rng1 [.var 2] [
    .asg (.nm 6) (.bin .mod (.bi .int [.bin .mul (.bin .add (.bin .add (.var 3) (.bin .mul (.k (.int 7)) (.var 5))) (.k (.int 1))) (.k (.int 48271))]) (.k (.int 2147483647))),
    .asg (.nm 6) (.bin .mod (.bi .int [.bin .add (.bin .mul (.var 6) (.k (.int 69621))) (.bin .mul (.k (.int 31)) (.var 5))]) (.k (.int 2147483629))),
    .ex (.bm .append (.var 4) [.bin .mod (.bi .int [.bin .fdiv (.var 6) (.k (.int 7))]) (.var 1)])],
  .ret (.var 4)]
/-- _law_box -/
def c_law_box : List C := [
  .asg (.nm 1) (.lst false []),
  .forr (.nm 2) .seq [.var 0] [
    .asg (.nm 1) (.bin .add (.var 1) (.call false 9 [.var 2, .k (.int 1000003), .k (.int 6)]))],
  .ifs (.cmp .eq (.bi .len [.var 1]) (.k (.int 0))) [
    .asg (.nm 1) (.lst false [.k (.int 11), .k (.int 5), .k (.int 2), .k (.int 7), .k (.int 31), .k (.int 101), .k (.int 997)])] [],
  .ret (.dct [.inr "row", .inr "at"] [.var 1, .k (.int 0)])]
/-- _law_next -/
def c_law_next : List C := [
  .asg (.nm 2) (.ix (.var 0) (.k (.str "at"))),
  .setix (.var 0) (.k (.str "at")) (.bin .add (.var 2) (.k (.int 1))),
  .asg (.nm 3) (.ix (.ix (.var 0) (.k (.str "row"))) (.bin .mod (.var 2) (.bi .len [.ix (.var 0) (.k (.str "row"))]))),
  .ret (.bin .mod (.bi .int [.bin .add (.var 3) (.bin .mul (.k (.int 7919)) (.bin .fdiv (.var 2) (.bi .len [.ix (.var 0) (.k (.str "row"))])))]) (.var 1))]
/-- _law_calendar -/
def c_law_calendar : List C := [
  .asg (.nm 1) (.bi .tuple [.lc false (.nm 2) .rng1 [.bin .add (.k (.int 1)) (.call false 11 [.var 0, .k (.int 4)])] [] (.bin .add (.k (.int 1)) (.call false 11 [.var 0, .k (.int 6)])) [2]]),
  .asg (.nm 3) (.bin .add (.k (.int 1)) (.call false 11 [.var 0, .bi .len [.var 1]])),
  .asg (.nm 4) (.bi .tuple [.lc false (.nm 2) .rng1 [.call false 11 [.var 0, .k (.int 3)]] [] (.tup [.bin .add (.k (.int 1)) (.call false 11 [.var 0, .k (.int 4)]), .cmp .eq (.call false 11 [.var 0, .k (.int 2)]) (.k (.int 1))]) [2]]),
  .asg (.nm 5) (.bin .add (.k (.int 1)) (.call false 11 [.var 0, .k (.int 5)])),
  .ret (.tup [.var 1, .var 3, .call false 11 [.var 0, .k (.int 3)], .var 4, .var 5, .call false 11 [.var 0, .var 5], .bin .add (.k (.int 1)) (.call false 11 [.var 0, .k (.int 6)])])]
/-- _law_common -/
def c_law_common : List C := [
  .asg (.nm 2) (.lst false [.var 0, .var 1]),
  .whil (.cmp .gt (.ix (.var 2) (.k (.int 1))) (.k (.int 0))) [
    .asg (.nm 2) (.lst false [.ix (.var 2) (.k (.int 1)), .bin .mod (.ix (.var 2) (.k (.int 0))) (.ix (.var 2) (.k (.int 1)))])],
  .ret (.bin .mul (.bin .fdiv (.var 0) (.ix (.var 2) (.k (.int 0)))) (.var 1))]
/-- _law_spoilt -/
def c_law_spoilt : List C := [
  .asg (.tup [3, 4, 5, 6, 7, 8, 9]) (.var 1),
  .asg (.nm 10) (.ix (.lst false [.lst false [.tup [], .tup [.k (.int 0)], .tup [.k (.int 61)], .tup [.k (.int 3), .k (.int 2), .k (.bl true)], .bin .mul (.tup [.k (.int 1)]) (.k (.int 25)), .lst false [.k (.int 3), .k (.int 2)], .tup [.k (.int 4), .neg (.k (.int 1))]], .lst false [.k (.int 0), .bin .add (.bi .len [.var 3]) (.k (.int 1)), .neg (.k (.int 1)), .k (.bl true)], .lst false [.neg (.k (.int 1)), .k (.int 31), .k (.bl false)], .lst false [.tup [.tup [.k (.int 0), .k (.bl true)]], .tup [.tup [.k (.int 1001), .k (.bl false)]], .tup [.tup [.k (.int 2), .k (.int 1)]], .tup [.tup [.k (.int 2)]], .bin .mul (.tup [.tup [.k (.int 2), .k (.bl true)]]) (.k (.int 7)), .lst false [], .tup [.tup [.k (.bl true), .k (.bl true)]], .tup [.k (.int 2), .k (.bl true)]], .lst false [.k (.int 0), .k (.int 15), .k (.bl true)], .lst false [.neg (.k (.int 1)), .var 7, .k (.bl true)], .lst false [.k (.int 0), .k (.int 2001), .neg (.k (.int 5))]]) (.var 2)),
  .ret (.bin .add (.bin .add (.sl (.var 1) .nopart (.var 2)) (.tup [.ix (.var 10) (.call false 11 [.var 0, .bi .len [.var 10]])])) (.sl (.var 1) (.bin .add (.var 2) (.k (.int 1))) .nopart))]
/-- _law_great -/
def c_law_great : List C := [
  .asg (.nm 1) (.k (.int 1)),
  .forr (.nm 2) .seq [.ix (.var 0) (.k (.int 3))] [
    .asg (.nm 1) (.call false 13 [.var 1, .ix (.var 2) (.k (.int 0))])],
  .asg (.nm 3) (.k (.int 0)),
  .forr (.nm 4) .rng1 [.var 1] [
    .asg (.nm 5) (.k (.bl false)),
    .forr (.nm 2) .seq [.ix (.var 0) (.k (.int 3))] [
      .ifs (.cmp .eq (.bin .mod (.var 4) (.ix (.var 2) (.k (.int 0)))) (.k (.int 0))) [
        .asg (.nm 5) (.ix (.var 2) (.k (.int 1)))] []],
    .asg (.nm 3) (.bin .add (.bin .add (.var 3) (.bi .sum [.ix (.var 0) (.k (.int 0))])) (.bin .mul (.ix (.var 0) (.k (.int 2))) (.bi .int [.var 5])))],
  .ret (.call false 13 [.var 3, .ix (.var 0) (.k (.int 4))])]
def s_law_0 : C := .asg (.nm 1) (.call true 10 [.var 0])
def s_law_1 : C := .asg (.nm 2) (.lst false [.k (.str "months"), .k (.str "longer"), .k (.str "extra"), .k (.str "rules"), .k (.str "week"), .k (.str "first"), .k (.str "minutes")])
def s_law_2 : C := .asg (.nm 3) (.call false 12 [.var 1])
def s_law_3 : C := .ifs (.or (.cmp .nis (.call false 4 [.var 3]) (.k (.non))) (.cmp .nis (.call false 4 [.k g_GREGORIAN]) (.k (.non)))) [
    .ret (.k (.bl false))] []
def s_law_4 : C := .asg (.nm 4) (.call false 11 [.var 1, .k (.int 7)])
def s_law_5 : C := .asg (.nm 5) (.call false 14 [.var 1, .var 3, .var 4])
def s_law_6 : C := .ifs (.cmp .ne (.call false 4 [.var 5]) (.ix (.var 2) (.var 4))) [
    .ret (.k (.bl false))] []
def s_law_7 : C := .asg (.nm 6) (.call false 11 [.var 1, .k (.int 7)])
def s_law_8 : C := .ifs (.and (.cmp .ne (.var 6) (.var 4)) (.and (.cmp .nin (.var 4) (.tup [.k (.int 0), .k (.int 4)])) (.cmp .nin (.var 6) (.tup [.k (.int 0), .k (.int 4)])))) [
    .ifs (.cmp .ne (.call false 4 [.call false 14 [.var 1, .var 5, .var 6]]) (.ix (.var 2) (.bi .min [.var 4, .var 6]))) [
      .ret (.k (.bl false))] []] []
def s_law_9 : C := .asg (.nm 7) (.ix (.lst false [.k (.int 1), .k (.int 2), .k (.int 4), .k (.int 25), .k (.int 100), .k (.int 399), .k (.int 400), .k (.int 401)]) (.call false 11 [.var 1, .k (.int 8)]))
def s_law_10 : C := .asg (.nm 8) (.tup [.sl (.tup [.k (.int 50), .k (.int 50)]) .nopart (.bin .add (.k (.int 1)) (.call false 11 [.var 1, .k (.int 2)])), .k (.int 1), .call false 11 [.var 1, .k (.int 3)], .tup [.tup [.var 7, .k (.bl true)]], .bin .add (.k (.int 1)) (.call false 11 [.var 1, .k (.int 14)]), .k (.int 0), .k (.int 5)])
def s_law_11 : C := .asg (.nm 9) (.tup [.ix (.var 8) (.k (.int 0)), .k (.int 1), .ix (.var 8) (.k (.int 2)), .tup [.tup [.var 7, .k (.bl true)], .tup [.bin .sub (.k (.int 200)) (.call false 11 [.var 1, .k (.int 2)]), .k (.bl false)]], .k (.int 10), .k (.int 0), .k (.int 5)])
def s_law_12 : C := .forr (.nm 10) .seq [.lst false [.var 8, .var 9, .tup [.tup [.k (.int 40)], .k (.int 1), .k (.int 0), .tup [.tup [.k (.int 1000), .k (.bl true)]], .ix (.lst false [.k (.int 10), .k (.int 11), .k (.int 9)]) (.call false 11 [.var 1, .k (.int 3)]), .k (.int 0), .k (.int 5)]]] [
    .ifs (.cmp .ne (.call false 4 [.var 10]) (.ife (.cmp .le (.call false 15 [.var 10]) (.k (.int 400000))) (.k (.non)) (.k (.str "cycle")))) [
      .ret (.k (.bl false))] []]
def s_law_13 : C := .asg (.nm 11) (.bi .tuple [.bin .mul (.lst false [.k (.int 60)]) (.bin .add (.k (.int 13)) (.call false 11 [.var 1, .k (.int 12)]))])
def s_law_14 : C := .asg (.nm 12) (.tup [.var 11, .bi .len [.var 11], .k (.int 30), .tup [.tup [.k (.int 1000), .k (.bl true)], .tup [.k (.int 500), .k (.bl false)], .tup [.k (.int 250), .k (.bl true)], .tup [.k (.int 125), .k (.bl false)], .tup [.k (.int 5), .k (.bl true)], .tup [.k (.int 1), .k (.bl false)]], .k (.int 14), .k (.int 13), .k (.int 2000)])
def s_law_15 : C := .ifs (.cmp .ne (.call false 4 [.var 12]) (.ife (.cmp .le (.call false 15 [.var 12]) (.k (.int 400000))) (.k (.non)) (.k (.str "cycle")))) [
    .ret (.k (.bl false))] []
def s_law_16 : C := .asg (.nm 13) (.tup [.bin .mul (.tup [.k (.int 60)]) (.k (.int 24)), .k (.int 24), .k (.int 30), .tup [.tup [.k (.int 1), .k (.bl true)], .tup [.k (.int 2), .k (.bl false)], .tup [.k (.int 4), .k (.bl true)], .tup [.k (.int 2), .k (.bl true)], .tup [.k (.int 1), .k (.bl false)], .tup [.k (.int 2), .k (.bl true)]], .k (.int 14), .k (.int 13), .k (.int 2000)])
def s_law_17 : C := .asg (.nm 14) (.tup [.bin .mul (.tup [.k (.int 50)]) (.k (.int 8)), .k (.int 1), .k (.int 0), .tup [.tup [.k (.int 1000), .k (.bl true)]], .k (.int 10), .k (.int 0), .k (.int 5)])
def s_law_18 : C := .ifs (.or (.cmp .nis (.call false 4 [.var 13]) (.k (.non))) (.or (.cmp .nis (.call false 4 [.var 14]) (.k (.non))) (.cmp .ne (.call false 4 [.bin .add (.bin .add (.sl (.var 14) .nopart (.k (.int 2))) (.tup [.k (.int 1)])) (.sl (.var 14) (.k (.int 3)) .nopart)]) (.k (.str "cycle"))))) [
    .ret (.k (.bl false))] []
def s_law_19 : C := .ret (.cmp .is (.call false 4 [.var 3]) (.k (.non)))
/-- law -/
def c_law : List C := [s_law_0, s_law_1, s_law_2, s_law_3, s_law_4, s_law_5, s_law_6, s_law_7, s_law_8, s_law_9, s_law_10, s_law_11, s_law_12, s_law_13, s_law_14, s_law_15, s_law_16, s_law_17, s_law_18, s_law_19]
def lvl : Nat := 5
def prg : Prg := [⟨3, 3, c_is_integer⟩, ⟨2, 2, c_common_multiple⟩, ⟨1, 2, c_fine_months⟩, ⟨1, 2, c_fine_rules⟩, ⟨1, 8, c_calendar_fault⟩, ⟨1, 4, c_is_cycle_long⟩, ⟨1, 4, c_cycle_years⟩, ⟨2, 5, c_is_long⟩, ⟨2, 2, c_year_length⟩, ⟨3, 7, c_law_draws⟩, ⟨1, 3, c_law_box⟩, ⟨2, 4, c_law_next⟩, ⟨1, 6, c_law_calendar⟩, ⟨2, 3, c_law_common⟩, ⟨3, 11, c_law_spoilt⟩, ⟨1, 6, c_law_great⟩, ⟨1, 15, c_law⟩]
end K01
set_option Elab.async false
set_option linter.all false
set_option maxRecDepth 100000
set_option autoImplicit false
set_option maxHeartbeats 1000000
/-! K01a: the program's functions, as they are -/
namespace K01
open PySem L2 Pc

def isI (lo hi : Int) : D → Bool
  | .int i => decide (lo ≤ i) && decide (i ≤ hi)
  | _ => false
theorem is_integer_ok (n : Nat) (x : D) (lo hi : Int) (S : Sto) (hx : isScr x = false) : callF (run prg (n + 1)) 0 [.d x, .d (.int lo), .d (.int hi)] S = .ok (.d (.bl (isI lo hi x))) S := by
  refine call_d (S1 := []) (w := .d (.bl (isI lo hi x))) rfl rfl (by decide) rfl ?_ rfl
  cases x <;> simp [c_is_integer, biW, hx, tyD, isScr, isI] at hx ⊢
  rename_i i
  by_cases h : lo ≤ i <;> simp [h]
theorem common_multiple_ok (n : Nat) (a b : Int) (S : Sto) (h1 : 0 < b) (h2 : b ≤ 1000000) : callF (run prg (n + 1)) 1 [.d (.int a), .d (.int b)] S = .ok (.d (.int (a / (Nat.gcd a.natAbs b.natAbs : Nat) * b))) S := by
  have h3 : 0 < Nat.gcd a.natAbs b.natAbs := Nat.gcd_pos_of_pos_right _ (by omega)
  have h4 : Nat.gcd a.natAbs b.natAbs ≤ b.natAbs := Nat.gcd_le_right _ (by omega)
  refine call_d (S1 := []) (w := .d (.int (a / (Nat.gcd a.natAbs b.natAbs : Nat) * b))) rfl rfl (by decide) rfl ?_ rfl
  simp [c_common_multiple, biW]
  generalize Nat.gcd a.natAbs b.natAbs = g at h3 h4
  rw [bw_fdiv (by omega) (by omega)]
  simp only [p_bok, p_lok]
  rw [bw_mul (mulOk_r (by omega) (by omega))]
  simp

/-- no script within -/
def flat1 : D → Bool
  | .tup xs => xs.all fun x => !isScr x
  | .scr _ => false
  | _ => true
def fM : D → Bool
  | .tup xs => decide (1 ≤ xs.length) && decide (xs.length ≤ 24) && xs.all (isI 1 60)
  | _ => false
theorem seqOf_tup (S : Sto) (xs : List D) : seqOf S (.d (.tup xs)) = some (xs.map .d) := rfl
theorem fine_months_ok (n : Nat) (m : D) (S : Sto) (hm : flat1 m = true) : callF (run prg (n + 2)) 2 [.d m] S = .ok (.d (.bl (fM m))) S := by
  refine call_d (S1 := []) (w := .d (.bl (fM m))) rfl rfl (by decide) rfl ?_ rfl
  cases m with
  | tup xs =>
    simp only [c_fine_months, prg]
    simp [biW, tyD, isScr, seqOf, itW]
    by_cases h1 : (1 : Int) ≤ (xs.length : Int)
    · by_cases h2 : (xs.length : Int) ≤ 24
      · have h1' : 1 ≤ xs.length := by omega
        have h2' : xs.length ≤ 24 := by omega
        simp [h1, h2]
        rw [gR_all (p := fun w => match w with | .d x => isI 1 60 x | _ => false) (by trivial)]
        · simp [fM, h1', h2', List.all_map, Function.comp_def]
        · intro w hw
          obtain ⟨x, hx, rfl⟩ := List.mem_map.mp hw
          have hx2 : isScr x = false := by
            have := List.all_eq_true.mp (show (xs.all fun x => !isScr x) = true from hm) x hx
            simpa using this
          simp [bindT, wipeE]
          exact is_integer_ok n x 1 60 [] hx2
      · simp [h1, h2, fM]
        omega
    · simp [h1, fM]
      intro h3 h4
      omega
  | scr _ => cases hm
  | _ => simp [c_fine_months, biW, tyD, isScr, fM]

def flat2 : D → Bool
  | .tup xs => xs.all flat1
  | .scr _ => false
  | _ => true
def fRp : D → Bool
  | .tup [a, .bl _] => isI 1 1000 a
  | _ => false
def fR : D → Bool
  | .tup xs => decide (xs.length ≤ 6) && xs.all fRp
  | _ => false
theorem take_all {α : Type} {p : α → Bool} {xs : List α} {i : Nat} {x : α} (h : xs[i]? = some x) (h1 : (xs.take i).all p = true) (h2 : p x = true) : (xs.take (i + 1)).all p = true := by
  rw [List.take_add_one, h]
  simp [List.all_append, h2]
  simpa using h1
theorem all_false {α : Type} {p : α → Bool} {xs : List α} {i : Nat} {x : α} (h : xs[i]? = some x) (h2 : p x = false) : xs.all p = false := by
  rw [Bool.eq_false_iff]
  intro z
  have := List.all_eq_true.mp z x (List.mem_of_getElem? h)
  rw [h2] at this; cases this
theorem items_at {xs : List D} {i : Nat} {w : W} (h : (xs.map W.d)[i]? = some w) : ∃ x, xs[i]? = some x ∧ w = .d x := by
  rw [List.getElem?_map] at h
  cases q : xs[i]? with
  | none => rw [q] at h; cases h
  | some x => rw [q] at h; exact ⟨x, rfl, (Option.some.inj h).symm⟩
theorem fine_rules_ok (n : Nat) (m : D) (S : Sto) (hm : flat2 m = true) : callF (run prg (n + 2)) 3 [.d m] S = .ok (.d (.bl (fR m))) S := by
  refine call_d (S1 := []) (w := .d (.bl (fR m))) rfl rfl (by decide) rfl ?_ rfl
  cases m with
  | tup xs =>
    by_cases h2 : xs.length ≤ 6
    · have h2' : ¬ (6 : Int) < (xs.length : Int) := by omega
      simp [c_fine_rules, biW, tyD, isScr, seqOf, h2']
      refine use_for (fun r => fin r = _) (fun i e S => S = [] ∧ (∃ v, e = [some (.d (.tup xs)), v]) ∧ (xs.take i).all fRp = true) (fun w e S => S = [] ∧ w = .d (.bl false) ∧ xs.all fRp = false) (src := [.d (.tup xs)]) (items := xs.map .d) (S1 := [])
        (by simp) rfl ⟨rfl, ⟨none, rfl⟩, rfl⟩ (fun _ _ _ _ => True.intro) (fun i x e S hx hI => ?_) (fun e' S' hI => ?_) (fun w e' S' hI => ?_)
      · obtain ⟨rfl, ⟨v, rfl⟩, ha⟩ := hI
        obtain ⟨y, hy, rfl⟩ := items_at hx
        have hf : flat1 y = true := List.all_eq_true.mp (show xs.all flat1 = true from hm) y (List.mem_of_getElem? hy)
        cases y with
        | tup ys =>
          match ys, hf, hy with
          | [], hf, hy => refine .inr ⟨.d (.bl false), [some (.d (.tup xs)), some (.d (.tup []))], [], ?_, rfl, rfl, all_false hy rfl⟩; simp [bindT, biW, tyD, isScr, seqOf]
          | [z], hf, hy => refine .inr ⟨.d (.bl false), [some (.d (.tup xs)), some (.d (.tup [z]))], [], ?_, rfl, rfl, all_false hy rfl⟩; simp [bindT, biW, tyD, isScr, seqOf]
          | [p, q], hf, hy =>
            have hp : isScr p = false := by
              have := List.all_eq_true.mp (show ([p, q].all fun x => !isScr x) = true from hf) p (by simp)
              simpa using this
            have hq : isScr q = false := by
              have := List.all_eq_true.mp (show ([p, q].all fun x => !isScr x) = true from hf) q (by simp)
              simpa using this
            have e1 := is_integer_ok n p 1 1000 [] hp
            cases hi : isI 1 1000 p with
            | false =>
              rw [hi] at e1
              refine .inr ⟨.d (.bl false), [some (.d (.tup xs)), some (.d (.tup [p, q]))], [], ?_, rfl, rfl, all_false hy (by cases q <;> simp [fRp, hi])⟩
              simp [bindT, biW, tyD, isScr, seqOf, ixW, atW, e1]
            | true =>
              rw [hi] at e1
              cases hb : tyD .bool q with
              | true =>
                obtain ⟨b, rfl⟩ : ∃ b, q = .bl b := by cases q <;> simp [tyD] at hb ⊢
                refine .inl ⟨[some (.d (.tup xs)), some (.d (.tup [p, .bl b]))], [], ?_, rfl, ⟨_, rfl⟩, take_all hy ha (by simp [fRp, hi])⟩
                simp [bindT, biW, tyD, isScr, seqOf, ixW, atW, e1]
              | false =>
                refine .inr ⟨.d (.bl false), [some (.d (.tup xs)), some (.d (.tup [p, q]))], [], ?_, rfl, rfl, all_false hy (by cases q <;> simp [fRp, tyD] at hb ⊢)⟩
                have ht : ∀ ys, tyD .tuple (.tup ys) = true := fun _ => rfl
                have hs : ∀ ys, isScr (.tup ys) = false := fun _ => rfl
                simp [bindT, biW, ht, hs, seqOf, ixW, atW, e1, hb, hq]
          | p :: q :: r :: t, hf, hy =>
            have h9 : ((t.length : Int) + 1 + 1 + 1 == 2) = false := by
              rw [beq_eq_false_iff_ne]; omega
            refine .inr ⟨.d (.bl false), [some (.d (.tup xs)), some (.d (.tup (p :: q :: r :: t)))], [], ?_, rfl, rfl, all_false hy (by simp [fRp])⟩
            simp [bindT, biW, tyD, isScr, seqOf, h9]
        | scr _ => cases hf
        | _ => exact .inr ⟨_, _, _, by simp [bindT, biW, tyD, isScr, seqOf]; rfl, rfl, rfl, all_false hy rfl⟩
      · obtain ⟨rfl, ⟨v, rfl⟩, ha⟩ := hI
        rw [List.length_map, List.take_length] at ha
        simp [fR, h2, ha]
      · obtain ⟨rfl, rfl, ha⟩ := hI
        simp [fR, h2, ha]
    · have h2' : (6 : Int) < (xs.length : Int) := by omega
      simp [c_fine_rules, biW, tyD, isScr, seqOf, h2', fR, h2]
  | scr _ => cases hm
  | _ => simp [c_fine_rules, biW, tyD, isScr, fR]
end K01
set_option Elab.async false
set_option linter.all false
set_option maxRecDepth 100000
set_option autoImplicit false
set_option maxHeartbeats 1000000
/-! K01b: right calendars -/
namespace K01
open PySem L2 Pc
structure Cal where
  ms : List Int
  lo : Int
  ex : Int
  rs : List (Int × Bool)
  we : Int
  fi : Int
  mi : Int
def msD (ms : List Int) : D := .tup (ms.map .int)
def ruD (r : Int × Bool) : D := .tup [.int r.1, .bl r.2]
def rsD (rs : List (Int × Bool)) : D := .tup (rs.map ruD)
def Cal.D (c : Cal) : Pc.D := .tup [msD c.ms, .int c.lo, .int c.ex, rsD c.rs, .int c.we, .int c.fi, .int c.mi]
structure Cal.Ok (c : Cal) : Prop where
  m1 : 1 ≤ c.ms.length
  m2 : c.ms.length ≤ 24
  m3 : ∀ m ∈ c.ms, 1 ≤ m ∧ m ≤ 60
  l1 : 1 ≤ c.lo
  l2 : c.lo ≤ c.ms.length
  e1 : 0 ≤ c.ex
  e2 : c.ex ≤ 30
  r1 : c.rs.length ≤ 6
  r2 : ∀ r ∈ c.rs, 1 ≤ r.1 ∧ r.1 ≤ 1000
  w1 : 1 ≤ c.we
  w2 : c.we ≤ 14
  f1 : 0 ≤ c.fi
  f2 : c.fi ≤ c.we - 1
  i1 : 1 ≤ c.mi
  i2 : c.mi ≤ 2000
def cm (a b : Int) : Int := a / (Nat.gcd a.natAbs b.natAbs : Nat) * b
def yrs (rs : List (Int × Bool)) : Int := rs.foldl (fun y r => cm y r.1) 1
def lng (rs : List (Int × Bool)) (y : Int) : Bool := rs.foldl (fun l r => if y % r.1 = 0 then r.2 else l) false
def ylen (c : Cal) (y : Int) : Int := c.ms.sum + (if lng c.rs y = true then c.ex else 0)
def days (c : Cal) : Int := ((List.range (yrs c.rs).toNat).map fun (i : Nat) => ylen c i).sum
def isCyc (c : Cal) : Bool := decide (400000 < yrs c.rs) || decide (400000 < cm (days c) c.we)
theorem gcd_dvd_int (a b : Int) : ((Nat.gcd a.natAbs b.natAbs : Nat) : Int) ∣ a := Int.natAbs_dvd_natAbs.mp (by
  rw [Int.natAbs_natCast]
  exact Nat.gcd_dvd_left _ _)
theorem cm_ge {a b : Int} (ha : 1 ≤ a) (hb : 1 ≤ b) : a ≤ cm a b ∧ b ≤ cm a b ∧ cm a b ≤ a * b := by
  have hg : 0 < Nat.gcd a.natAbs b.natAbs := Nat.gcd_pos_of_pos_left _ (by omega)
  have hgb : Nat.gcd a.natAbs b.natAbs ≤ b.natAbs := Nat.gcd_le_right _ (by omega)
  obtain ⟨q, hq⟩ := gcd_dvd_int a b
  unfold cm
  generalize Nat.gcd a.natAbs b.natAbs = g at *
  have hg' : (0 : Int) < (g : Int) := by omega
  have e : a / (g : Int) = q := by
    rw [hq]
    exact Int.mul_ediv_cancel_left _ (by omega)
  rw [e]
  have hq1 : 1 ≤ q := by
    by_cases h : 0 < q
    · omega
    · have h : q ≤ 0 := by omega
      have : (g : Int) * q ≤ 0 := Int.mul_nonpos_of_nonneg_of_nonpos (by omega) h
      omega
  have hgb' : (g : Int) ≤ b := by omega
  refine ⟨?_, ?_, ?_⟩
  · rw [hq, Int.mul_comm (g : Int) q]
    exact Int.mul_le_mul_of_nonneg_left hgb' (by omega)
  · have := Int.mul_le_mul_of_nonneg_right hq1 (show 0 ≤ b by omega)
    omega
  · have h1 : q ≤ a := by
      rw [hq]
      have := Int.mul_le_mul_of_nonneg_right (show (1 : Int) ≤ g by omega) (show 0 ≤ q by omega)
      omega
    exact Int.mul_le_mul_of_nonneg_right h1 (by omega)
theorem yrs_snoc (rs : List (Int × Bool)) (r : Int × Bool) : yrs (rs ++ [r]) = cm (yrs rs) r.1 := by
  unfold yrs
  rw [List.foldl_append]
  rfl
theorem yrs_take {rs : List (Int × Bool)} {i : Nat} {r : Int × Bool} (h : rs[i]? = some r) : yrs (rs.take (i + 1)) = cm (yrs (rs.take i)) r.1 := by
  rw [List.take_add_one, h]
  exact yrs_snoc _ _
theorem yrs_pos : ∀ (rs : List (Int × Bool)), (∀ r ∈ rs, 1 ≤ r.1 ∧ r.1 ≤ 1000) → ∀ a : Int, 1 ≤ a → 1 ≤ rs.foldl (fun y r => cm y r.1) a ∧ rs.foldl (fun y r => cm y r.1) a ≤ a * 1000 ^ rs.length
  | [], _, a, ha => ⟨ha, by simp⟩
  | r :: rs, h, a, ha => by
    obtain ⟨h1, h2⟩ := h r List.mem_cons_self
    obtain ⟨q1, q2, q3⟩ := cm_ge ha h1
    obtain ⟨p1, p2⟩ := yrs_pos rs (fun x hx => h x (List.mem_cons_of_mem _ hx)) (cm a r.1) (by omega)
    refine ⟨p1, Int.le_trans p2 ?_⟩
    rw [List.length_cons, Int.pow_succ]
    have e : a * (1000 ^ rs.length * 1000) = (a * 1000) * 1000 ^ rs.length := by
      rw [Int.mul_comm ((1000 : Int) ^ rs.length) 1000, Int.mul_assoc]
    rw [e]
    refine Int.mul_le_mul_of_nonneg_right ?_ (Int.pow_nonneg (by decide))
    have := Int.mul_le_mul_of_nonneg_left h2 (show 0 ≤ a by omega)
    omega
theorem pow6 {n : Nat} (h : n ≤ 6) : (1000 : Int) ^ n ≤ 1000000000000000000 := by
  match n, h with
  | 0, _ => decide
  | 1, _ => decide
  | 2, _ => decide
  | 3, _ => decide
  | 4, _ => decide
  | 5, _ => decide
  | 6, _ => decide
theorem Cal.Ok.yrs {c : Cal} (h : c.Ok) : 1 ≤ yrs c.rs ∧ K01.yrs c.rs ≤ 1000000000000000000 := by
  obtain ⟨a, b⟩ := yrs_pos c.rs h.r2 1 (by decide)
  have := pow6 h.r1
  exact ⟨a, by unfold K01.yrs; omega⟩
theorem sum_bound : ∀ (ms : List Int), (∀ m ∈ ms, 1 ≤ m ∧ m ≤ 60) → (ms.length : Int) ≤ ms.sum ∧ ms.sum ≤ 60 * ms.length
  | [], _ => by simp
  | m :: ms, h => by
    obtain ⟨a, b⟩ := h m List.mem_cons_self
    obtain ⟨p, q⟩ := sum_bound ms fun x hx => h x (List.mem_cons_of_mem _ hx)
    rw [List.sum_cons, List.length_cons]
    omega
theorem Cal.Ok.ylen {c : Cal} (h : c.Ok) (y : Int) : 1 ≤ ylen c y ∧ K01.ylen c y ≤ 1470 := by
  obtain ⟨p, q⟩ := sum_bound c.ms h.m3
  have := h.m1
  have := h.m2
  have := h.e1
  have := h.e2
  unfold K01.ylen
  split <;> omega
theorem rs_at {rs : List (Int × Bool)} {i : Nat} {w : W} (h : ((rs.map ruD).map W.d)[i]? = some w) : ∃ r, rs[i]? = some r ∧ w = .d (ruD r) := by
  obtain ⟨x, h1, rfl⟩ := items_at h
  rw [List.getElem?_map] at h1
  cases q : rs[i]? with
  | none => rw [q] at h1; cases h1
  | some r => rw [q] at h1; exact ⟨r, rfl, by rw [← Option.some.inj h1]⟩
theorem cycle_years_ok (n : Nat) (c : Cal) (S : Sto) (h : c.Ok) : callF (run prg (n + 2)) 6 [.d c.D] S = .ok (.d (.int (yrs c.rs))) S := by
  refine call_d (S1 := []) (w := .d (.int (yrs c.rs))) rfl rfl (by decide) rfl ?_ rfl
  simp [c_cycle_years, bindT]
  refine use_all (fun r => fin r = _) (fun i e S => S = [] ∧ ∃ v2 v3, e = [some (.d c.D), some (.d (.int (yrs (c.rs.take i)))), v2, v3]) (src := [.d (rsD c.rs)]) (items := (c.rs.map ruD).map .d) (S1 := [])
    (by simp [Cal.D, ixW, atW, seqOf]) rfl ⟨rfl, none, none, rfl⟩ (fun _ _ _ _ => True.intro) (fun i x e S hx hI => ?_) (fun e' S' hI => ?_)
  · obtain ⟨rfl, v2, v3, rfl⟩ := hI
    obtain ⟨r, hr, rfl⟩ := rs_at hx
    have hr2 := h.r2 r (List.mem_of_getElem? hr)
    refine ⟨[some (.d c.D), some (.d (.int (yrs (c.rs.take (i + 1))))), some (.d (.int r.1)), some (.d (.bl r.2))], [], ?_, rfl, _, _, rfl⟩
    have e1 := common_multiple_ok n (yrs (c.rs.take i)) r.1 [] (by omega) (by omega)
    simp [bindT, ruD, setN, e1]
    rw [yrs_take hr]; rfl
  · obtain ⟨rfl, v2, v3, rfl⟩ := hI
    simp
theorem lng_take {rs : List (Int × Bool)} {i : Nat} {r : Int × Bool} (y : Int) (h : rs[i]? = some r) : lng (rs.take (i + 1)) y = if y % r.1 = 0 then r.2 else lng (rs.take i) y := by
  rw [List.take_add_one, h]
  unfold lng
  rw [List.foldl_append]
  rfl
theorem is_long_ok (n : Nat) (c : Cal) (y : Int) (S : Sto) (h : c.Ok) : callF (run prg (n + 1)) 7 [.d c.D, .d (.int y)] S = .ok (.d (.bl (lng c.rs y))) S := by
  refine call_d (S1 := []) (w := .d (.bl (lng c.rs y))) rfl rfl (by decide) rfl ?_ rfl
  simp [c_is_long, bindT]
  refine use_all (fun r => fin r = _) (fun i e S => S = [] ∧ ∃ v2 v3, e = [some (.d c.D), some (.d (.int y)), some (.d (.bl (lng (c.rs.take i) y))), v2, v3]) (src := [.d (rsD c.rs)]) (items := (c.rs.map ruD).map .d) (S1 := [])
    (by simp [Cal.D, ixW, atW, seqOf]) rfl ⟨rfl, none, none, rfl⟩ (fun _ _ _ _ => True.intro) (fun i x e S hx hI => ?_) (fun e' S' hI => ?_)
  · obtain ⟨rfl, v2, v3, rfl⟩ := hI
    obtain ⟨r, hr, rfl⟩ := rs_at hx
    have hr2 := h.r2 r (List.mem_of_getElem? hr)
    refine ⟨[some (.d c.D), some (.d (.int y)), some (.d (.bl (lng (c.rs.take (i + 1)) y))), some (.d (.int r.1)), some (.d (.bl r.2))], [], ?_, rfl, _, _, rfl⟩
    simp [bindT, ruD, setN]
    rw [bw_mod (by omega), lng_take y hr]
    by_cases hz : y % r.1 = 0 <;> simp [hz]
  · obtain ⟨rfl, v2, v3, rfl⟩ := hI
    simp
theorem allI_ints : ∀ ms : List Int, allI ((ms.map D.int).map W.d) = some ms
  | [] => rfl
  | m :: ms => by
    simp only [List.map_cons, allI, allI_ints ms]
    rfl
theorem year_length_ok (n : Nat) (c : Cal) (y : Int) (S : Sto) (h : c.Ok) : callF (run prg (n + 2)) 8 [.d c.D, .d (.int y)] S = .ok (.d (.int (ylen c y))) S := by
  refine call_d (S1 := []) (w := .d (.int (ylen c y))) rfl rfl (by decide) rfl ?_ rfl
  have e1 := is_long_ok n c y [] h
  have e2 : ixW (.d c.D) (.d (.int 0)) [] = .ok (.d (msD c.ms)) [] := rfl
  have e3 : ixW (.d c.D) (.d (.int 2)) [] = .ok (.d (.int c.ex)) [] := rfl
  have e4 : biW .sum [.d (msD c.ms)] [] = .ok (.d (.int c.ms.sum)) [] := by
    show (ofO ((some ((c.ms.map D.int).map W.d)).bind allI) []).bind _ = _
    rw [Option.bind_some, allI_ints]; rfl
  simp [c_year_length, e1, e2, e3, e4]
  cases hl : lng c.rs y <;> simp [ylen, hl]
end K01
set_option Elab.async false
set_option linter.all false
set_option maxRecDepth 100000
set_option autoImplicit false
set_option maxHeartbeats 1000000
/-! K01c: the fault; the law's own great cycle -/
namespace K01
open PySem L2 Pc
theorem rng1_int (y : Int) (S : Sto) (h0 : -(2 ^ 60) < y) (h1 : y < 2 ^ 60) : itW .rng1 [.d (.int y)] S = some ((List.range y.toNat).map fun (i : Nat) => .d (.int i)) := by
  show (if -(2 ^ 60) < y ∧ y < 2 ^ 60 then _ else _) = _
  rw [if_pos ⟨h0, h1⟩]
theorem is_cycle_long_ok (n : Nat) (c : Cal) (S : Sto) (h : c.Ok) : callF (run prg (n + 3)) 5 [.d c.D] S = .ok (.d (.bl (isCyc c))) S := by
  refine call_d (S1 := []) (w := .d (.bl (isCyc c))) rfl rfl (by decide) rfl ?_ rfl
  have e1 := cycle_years_ok n c [] h
  obtain ⟨y1, y2⟩ := h.yrs
  simp [c_is_cycle_long, e1, bindT, g_MOST_CYCLE]
  by_cases hy : 400000 < yrs c.rs
  · simp [hy, isCyc]
  · simp [hy]
    rw [rng1_int _ _ (by omega) (by omega)]
    simp only [p_ofs, p_bok]
    rw [gR_sum (S := []) (acc := 0) (items := (List.range (yrs c.rs).toNat).map fun (i : Nat) => .d (.int i)) (p := fun w => match w with | .d (.int y) => ylen c y | _ => 0) 1470 (by decide) (by simp [still]) (fun x hx => ?_) (by decide) (by simp; omega) (by decide)]
    · have w1 := h.w1
      have w2 := h.w2
      have e2 := common_multiple_ok (n + 1) (days c) c.we [] (by omega) (by omega)
      have e3 : ixW (.d c.D) (.d (.int 4)) [] = .ok (.d (.int c.we)) [] := rfl
      have e4 : (0 : Int) + (((List.range (yrs c.rs).toNat).map fun (i : Nat) => W.d (.int i)).map fun w => match w with | .d (.int y) => ylen c y | _ => 0).sum = days c := by
        rw [Int.zero_add, List.map_map]
        rfl
      rw [e4]
      simp [e3, e2]
      simp [isCyc, hy, cm]
      first | rfl | congr
    · obtain ⟨i, _, rfl⟩ := List.mem_map.mp hx
      obtain ⟨q1, q2⟩ := h.ylen (i : Int)
      refine ⟨?_, (show 0 ≤ ylen c (i : Int) by omega), q2⟩
      have e2 := year_length_ok n c (i : Int) [] h
      simp [bindT, wipeE, e2]
def lenT : D → Int
  | .tup xs => xs.length
  | _ => 0
def intD : D → Int
  | .int i => i
  | _ => 0
def cfD (m l e r w f mi : D) (cyc : Bool) : D :=
  if !fM m then .str "months" else if !isI 1 (lenT m) l then .str "longer" else if !isI 0 30 e then .str "extra" else if !fR r then .str "rules" else if !isI 1 14 w then .str "week" else if !isI 0 (intD w - 1) f then .str "first"
  else if !isI 1 2000 mi then .str "minutes" else if cyc then .str "cycle" else .non
def okD (m l e r w f mi : D) : Bool := fM m && isI 1 (lenT m) l && isI 0 30 e && fR r && isI 1 14 w && isI 0 (intD w - 1) f && isI 1 2000 mi
theorem calendar_fault_ok (n : Nat) (m l e r w f mi : D) (cyc : Bool) (S : Sto) (f1 : flat1 m = true) (f2 : isScr l = false) (f3 : isScr e = false) (f4 : flat2 r = true) (f5 : isScr w = false) (f6 : isScr f = false) (f7 : isScr mi = false)
    (hc : okD m l e r w f mi = true → ∃ c : Cal, c.Ok ∧ D.tup [m, l, e, r, w, f, mi] = c.D ∧ isCyc c = cyc) :
    callF (run prg (n + 4)) 4 [.d (.tup [m, l, e, r, w, f, mi])] S = .ok (.d (cfD m l e r w f mi cyc)) S := by
  refine call_d (S1 := []) (w := .d (cfD m l e r w f mi cyc)) rfl rfl (by decide) rfl ?_ rfl
  have a1 := fine_months_ok (n + 1) m [] f1
  have a3 := is_integer_ok (n + 2) e 0 30 [] f3
  have a4 := fine_rules_ok (n + 1) r [] f4
  have a5 := is_integer_ok (n + 2) w 1 14 [] f5
  have a7 := is_integer_ok (n + 2) mi 1 2000 [] f7
  simp [c_calendar_fault, bindT, setN, a1]
  cases hm : fM m with
  | false => simp [cfD, hm]
  | true =>
    obtain ⟨xs, rfl⟩ : ∃ xs, m = .tup xs := by cases m <;> simp [fM] at hm ⊢
    have el : biW .len [.d (.tup xs)] [] = .ok (.d (.int xs.length)) [] := by
      simp [biW, seqOf]
    have a2 := is_integer_ok (n + 2) l 1 xs.length [] f2
    simp [el, a2]
    cases hl : isI 1 xs.length l with
    | false => simp [cfD, hm, lenT, hl]
    | true =>
      simp [a3]
      cases he : isI 0 30 e with
      | false => simp [cfD, hm, lenT, hl, he]
      | true =>
        simp [a4]
        cases hr : fR r with
        | false => simp [cfD, hm, lenT, hl, he, hr]
        | true =>
          simp [a5]
          cases hw : isI 1 14 w with
          | false => simp [cfD, hm, lenT, hl, he, hr, hw]
          | true =>
            obtain ⟨wi, rfl⟩ : ∃ i, w = .int i := by cases w <;> simp [isI] at hw ⊢
            have a6 := is_integer_ok (n + 2) f 0 (wi - 1) [] f6
            simp [a6]
            cases hf : isI 0 (wi - 1) f with
            | false => simp [cfD, hm, lenT, hl, he, hr, hw, hf, intD]
            | true =>
              simp [a7]
              cases hi : isI 1 2000 mi with
              | false => simp [cfD, hm, lenT, hl, he, hr, hw, hf, intD, hi]
              | true =>
                obtain ⟨c, hok, ec, hcy⟩ := hc (by simp [okD, hm, lenT, hl, he, hr, hw, hf, intD, hi])
                have a8 := is_cycle_long_ok n c [] hok
                rw [← ec, hcy] at a8
                simp [a8]
                cases cyc <;> simp [cfD, hm, lenT, hl, he, hr, hw, hf, intD, hi]
/-! ### the law's own lcm -/
theorem law_common_ok (n : Nat) (a b : Int) (S : Sto) (h0 : 0 ≤ a) (h1 : 0 < b) (h2 : b ≤ 1000000) : callF (run prg (n + 1)) 13 [.d (.int a), .d (.int b)] S = .ok (.d (.int (cm a b))) S := by
  refine call_d (S1 := []) (w := .d (.int (cm a b))) rfl rfl (by decide) rfl ?_ rfl
  have h3 : 0 < Nat.gcd a.natAbs b.natAbs := Nat.gcd_pos_of_pos_right _ (by omega)
  have h4 : Nat.gcd a.natAbs b.natAbs ≤ b.natAbs := Nat.gcd_le_right _ (by omega)
  simp [c_law_common, bindT, allD]
  refine use_whl (fun r => fin r = _) (fun m e S => S = [] ∧ ∃ p q : Int, 0 ≤ p ∧ 0 ≤ q ∧ Nat.gcd p.natAbs q.natAbs = Nat.gcd a.natAbs b.natAbs ∧ m = q.natAbs ∧ e = [some (.d (.int a)), some (.d (.int b)), some (.d (.lst [.int p, .int q]))])
    (fun e S => S = [] ∧ e = [some (.d (.int a)), some (.d (.int b)), some (.d (.lst [.int (Nat.gcd a.natAbs b.natAbs : Nat), .int 0]))]) b.natAbs ⟨rfl, a, b, h0, by omega, rfl, rfl, rfl⟩ (fun m e S hI => ?_) (fun e' S' hI => ?_)
  · obtain ⟨rfl, p, q, hp, hq, hg, rfl, rfl⟩ := hI
    have e1 : ixW (.d (.lst [.int p, .int q])) (.d (.int 1)) [] = .ok (.d (.int q)) [] := rfl
    have e0 : ixW (.d (.lst [.int p, .int q])) (.d (.int 0)) [] = .ok (.d (.int p)) [] := rfl
    by_cases hz : q = 0
    · subst hz
      left
      refine ⟨_, [], ?_, rfl, rfl, ?_⟩
      · simp [e1]
      · rw [← hg]
        simp [Int.toNat_of_nonneg hp]
        omega
    · right
      refine ⟨[], [some (.d (.int a)), some (.d (.int b)), some (.d (.lst [.int q, .int (p % q)]))], [], ?_, ?_, (p % q).natAbs, ?_, rfl, q, p % q, hq, Int.emod_nonneg _ hz, ?_, rfl, rfl⟩
      · simp [e1]
        omega
      · simp [e1, e0, bindT]
        rw [bw_mod (by omega)]
        simp [allD, bindT]
      · have := Int.emod_lt_of_pos p (show 0 < q by omega)
        have := Int.emod_nonneg p hz
        omega
      · rw [← hg, Nat.gcd_comm p.natAbs q.natAbs]
        have e : (p % q).natAbs = p.natAbs % q.natAbs := by
          obtain ⟨p', rfl⟩ := Int.eq_ofNat_of_zero_le hp
          obtain ⟨q', rfl⟩ := Int.eq_ofNat_of_zero_le hq
          rfl
        rw [e, Nat.gcd_comm q.natAbs (p.natAbs % q.natAbs), ← Nat.gcd_rec]
  · obtain ⟨rfl, rfl⟩ := hI
    have e0 : ∀ g : Int, ixW (.d (.lst [.int g, .int 0])) (.d (.int 0)) [] = .ok (.d (.int g)) [] := fun _ => rfl
    simp [e0, cm]
    generalize Nat.gcd a.natAbs b.natAbs = g at h3 h4
    rw [bw_fdiv (by omega) (by omega)]
    simp only [p_bok, p_lok]
    rw [bw_mul (mulOk_r (by omega) (by omega))]
    simp
end K01
set_option Elab.async false
set_option linter.all false
set_option maxRecDepth 100000
set_option autoImplicit false
set_option maxHeartbeats 1000000
/-! K01d: the law's great cycle; what it draws -/
namespace K01
open PySem L2 Pc
def dayP (c : Cal) (i : Nat) : Int := ((List.range i).map fun (j : Nat) => ylen c j).sum
theorem dayP_succ (c : Cal) (i : Nat) : dayP c (i + 1) = dayP c i + ylen c i := by
  unfold dayP
  rw [List.range_succ, List.map_append, List.sum_append]
  simp
theorem dayP_ge {c : Cal} (h : c.Ok) : ∀ i : Nat, (i : Int) ≤ dayP c i ∧ dayP c i ≤ 1470 * i
  | 0 => by simp [dayP]
  | i + 1 => by
    obtain ⟨a, b⟩ := dayP_ge h i
    obtain ⟨p, q⟩ := h.ylen (i : Int)
    rw [dayP_succ]
    omega
theorem law_great_ok (n : Nat) (c : Cal) (S : Sto) (h : c.Ok) : callF (run prg (n + 2)) 15 [.d c.D] S = .ok (.d (.int (cm (days c) c.we))) S := by
  refine call_d (S1 := []) (w := .d (.int (cm (days c) c.we))) rfl rfl (by decide) rfl ?_ rfl
  obtain ⟨y1, y2⟩ := h.yrs
  have i3 : ∀ S, ixW (.d c.D) (.d (.int 3)) S = .ok (.d (rsD c.rs)) S := fun _ => rfl
  have i0 : ∀ S, ixW (.d c.D) (.d (.int 0)) S = .ok (.d (msD c.ms)) S := fun _ => rfl
  have i2 : ∀ S, ixW (.d c.D) (.d (.int 2)) S = .ok (.d (.int c.ex)) S := fun _ => rfl
  have i4 : ∀ S, ixW (.d c.D) (.d (.int 4)) S = .ok (.d (.int c.we)) S := fun _ => rfl
  have sm : ∀ S, biW .sum [.d (msD c.ms)] S = .ok (.d (.int c.ms.sum)) S := fun S => by
    show (ofO ((some ((c.ms.map D.int).map W.d)).bind allI) S).bind _ = _
    rw [Option.bind_some, allI_ints]; rfl
  simp [c_law_great, bindT]
  refine use_all (fun r => fin r = _) (fun i e S => S = [] ∧ ∃ v2, e = [some (.d c.D), some (.d (.int (yrs (c.rs.take i)))), v2, none, none, none]) (src := [.d (rsD c.rs)]) (items := (c.rs.map ruD).map .d) (S1 := [])
    (by simp [i3]) rfl ⟨rfl, none, rfl⟩ (fun _ _ _ _ => True.intro) (fun i x e S hx hI => ?_) (fun e' S' hI => ?_)
  · obtain ⟨rfl, v2, rfl⟩ := hI
    obtain ⟨r, hr, rfl⟩ := rs_at hx
    have hr2 := h.r2 r (List.mem_of_getElem? hr)
    have hp := (yrs_pos (c.rs.take i) (fun x hx => h.r2 x (List.mem_of_mem_take hx)) 1 (by decide)).1
    refine ⟨[some (.d c.D), some (.d (.int (yrs (c.rs.take (i + 1))))), some (.d (ruD r)), none, none, none], [], ?_, rfl, _, rfl⟩
    have e1 := law_common_ok n (yrs (c.rs.take i)) r.1 [] (by unfold yrs; omega) (by omega) (by omega)
    have e2 : ixW (.d (ruD r)) (.d (.int 0)) [] = .ok (.d (.int r.1)) [] := rfl
    simp [bindT, e2, e1]
    rw [yrs_take hr]
  · obtain ⟨rfl, v2, rfl⟩ := hI
    simp [bindT]
    refine use_all (fun r => fin r = _) (fun i e S => S = [] ∧ ∃ v2 v4 v5, e = [some (.d c.D), some (.d (.int (yrs c.rs))), v2, some (.d (.int (dayP c i))), v4, v5]) (src := [.d (.int (yrs c.rs))]) (items := (List.range (yrs c.rs).toNat).map fun (i : Nat) => .d (.int i)) (S1 := [])
      (by simp) (rng1_int _ _ (by omega) (by omega)) ⟨rfl, v2, none, none, rfl⟩ (fun _ _ _ _ => by simp [still]) (fun i x e S hx hI => ?_) (fun e' S' hI => ?_)
    · obtain ⟨rfl, v2, v4, v5, rfl⟩ := hI
      rw [List.getElem?_map] at hx
      cases hq : (List.range (yrs c.rs).toNat)[i]? with
      | none => rw [hq] at hx; cases hx
      | some j =>
        rw [hq] at hx
        have hj : j = i := by
          obtain ⟨h1, h2⟩ := List.getElem?_eq_some_iff.mp hq
          rw [List.getElem_range] at h2
          exact h2.symm
        subst hj
        have hx : x = .d (.int (j : Int)) := (Option.some.inj hx).symm
        subst hx
        simp only [bindT, p_ofs, p_lok]
        simp [bindT]
        refine use_all (fun r => ∃ e' S', r = .ok (.nx, e') S' ∧ S' = [] ∧ ∃ v2 v4 v5, e' = [some (.d c.D), some (.d (.int (yrs c.rs))), v2, some (.d (.int (dayP c (j + 1)))), v4, v5]) (fun i e S => S = [] ∧ ∃ v2, e = [some (.d c.D), some (.d (.int (yrs c.rs))), v2, some (.d (.int (dayP c j))), some (.d (.int j)), some (.d (.bl (lng (c.rs.take i) j)))]) (src := [.d (rsD c.rs)]) (items := (c.rs.map ruD).map .d) (S1 := [])
          (by simp [i3]) rfl ⟨rfl, v2, rfl⟩ (fun _ _ _ _ => True.intro) (fun k x e S hx hI => ?_) (fun e' S' hI => ?_)
        · obtain ⟨rfl, v2, rfl⟩ := hI
          obtain ⟨r, hr, rfl⟩ := rs_at hx
          have hr2 := h.r2 r (List.mem_of_getElem? hr)
          refine ⟨[some (.d c.D), some (.d (.int (yrs c.rs))), some (.d (ruD r)), some (.d (.int (dayP c j))), some (.d (.int j)), some (.d (.bl (lng (c.rs.take (k + 1)) j)))], [], ?_, rfl, _, rfl⟩
          have e2 : ixW (.d (ruD r)) (.d (.int 0)) [] = .ok (.d (.int r.1)) [] := rfl
          have e3 : ixW (.d (ruD r)) (.d (.int 1)) [] = .ok (.d (.bl r.2)) [] := rfl
          simp [bindT, e2, e3]
          rw [bw_mod (by omega), lng_take (j : Int) hr]
          by_cases hz : (j : Int) % r.1 = 0 <;> simp [hz, e3]
        · obtain ⟨rfl, v2, rfl⟩ := hI
          have hb : biW .int [.d (.bl (lng c.rs j))] [] = .ok (.d (.int (if lng c.rs j = true then 1 else 0))) [] := rfl
          have e1 := h.e1
          have e2 := h.e2
          refine ⟨[some (.d c.D), some (.d (.int (yrs c.rs))), v2, some (.d (.int (dayP c (j + 1)))), some (.d (.int j)), some (.d (.bl (lng c.rs j)))], [], ?_, rfl, ⟨_, _, _, rfl⟩⟩
          simp [i0, i2, sm, bindT, hb]
          rw [bw_mul (mulOk_l (by omega) (by omega))]
          simp
          rw [dayP_succ, ylen]
          cases lng c.rs j <;> simp <;> omega
    · obtain ⟨rfl, v2, v4, v5, rfl⟩ := hI
      rw [List.length_map, List.length_range]
      have w1 := h.w1
      have w2 := h.w2
      obtain ⟨d1, d2⟩ := dayP_ge h (yrs c.rs).toNat
      have e1 := law_common_ok n (days c) c.we [] (show 0 ≤ dayP c (yrs c.rs).toNat by omega) (by omega) (by omega)
      have e1 : callF (run prg (n + 1)) 13 [.d (.int (dayP c (yrs c.rs).toNat)), .d (.int c.we)] [] = .ok (.d (.int (cm (days c) c.we))) [] := e1
      simp [i4, e1]
end K01
set_option Elab.async false
set_option linter.all false
set_option maxRecDepth 100000
set_option autoImplicit false
set_option maxHeartbeats 1000000
/-! K01e: the law's calendars -/
namespace K01
open PySem L2 Pc
section
variable {row : List Int}
theorem nx (n : Nat) (hr : row ≠ []) (hl : row.length ≤ 400) {a m : Int} (ha : 0 ≤ a) (hm : 0 < m) : ∃ v, 0 ≤ v ∧ v < m ∧ callF (run prg (n + 1)) 11 [.loc 0, .d (.int m)] [bx row a] = .ok (.d (.int v)) [bx row (a + 1)] :=
  next_ok rfl hr (by omega) ha hm
theorem yrs_le4 : ∀ (rs : List (Int × Bool)) (a : Int), (∀ r ∈ rs, 1 ≤ r.1 ∧ r.1 ≤ 4) → 1 ≤ a → 1 ≤ rs.foldl (fun y r => cm y r.1) a ∧ rs.foldl (fun y r => cm y r.1) a ≤ a * 4 ^ rs.length
  | [], a, _, ha => ⟨ha, by simp⟩
  | r :: rs, a, h, ha => by
    obtain ⟨h1, h2⟩ := h r List.mem_cons_self
    obtain ⟨q1, q2, q3⟩ := cm_ge ha h1
    obtain ⟨p1, p2⟩ := yrs_le4 rs (cm a r.1) (fun x hx => h x (List.mem_cons_of_mem _ hx)) (by omega)
    refine ⟨p1, Int.le_trans p2 ?_⟩
    rw [List.length_cons, Int.pow_succ]
    have e : a * (4 ^ rs.length * 4) = (a * 4) * 4 ^ rs.length := by
      rw [Int.mul_comm ((4 : Int) ^ rs.length) 4, Int.mul_assoc]
    rw [e]
    refine Int.mul_le_mul_of_nonneg_right ?_ (Int.pow_nonneg (by decide))
    have := Int.mul_le_mul_of_nonneg_left h2 (show 0 ≤ a by omega)
    omega
theorem small_cyc {c : Cal} (h : c.Ok) (h1 : ∀ r ∈ c.rs, 1 ≤ r.1 ∧ r.1 ≤ 4) (h2 : c.rs.length ≤ 2) : isCyc c = false := by
  obtain ⟨a, b⟩ := yrs_le4 c.rs 1 h1 (by decide)
  have hp : (4 : Int) ^ c.rs.length ≤ 16 := by
    match c.rs.length, h2 with
    | 0, _ => decide
    | 1, _ => decide
    | 2, _ => decide
  have hy : yrs c.rs ≤ 16 := by unfold yrs; omega
  have hy1 : 1 ≤ yrs c.rs := a
  obtain ⟨d1, d2⟩ := dayP_ge h (yrs c.rs).toNat
  have d1 : ((yrs c.rs).toNat : Int) ≤ days c := d1
  have d2 : days c ≤ 1470 * ((yrs c.rs).toNat : Int) := d2
  have w1 := h.w1
  have w2 := h.w2
  obtain ⟨_, _, q⟩ := cm_ge (a := days c) (b := c.we) (by omega) w1
  have q2 : days c * c.we ≤ days c * 14 := Int.mul_le_mul_of_nonneg_left w2 (by omega)
  unfold isCyc
  rw [decide_eq_false (by omega), decide_eq_false (by omega)]
  rfl
theorem months_ok (n : Nat) (hr : row ≠ []) (hl : row.length ≤ 400) {a : Int} (ha : 0 ≤ a) (v1 v2 v3 v4 v5 : Option W) : ∃ (ms : List Int) (a' : Int), ms.length ≤ 4 ∧ 1 ≤ ms.length ∧ (∀ m ∈ ms, 1 ≤ m ∧ m ≤ 6) ∧ 0 ≤ a' ∧
    evE (run prg (n + 1)) (.lc false (.nm 2) .rng1 [.bin .add (.k (.int 1)) (.call false 11 [.var 0, .k (.int 4)])] [] (.bin .add (.k (.int 1)) (.call false 11 [.var 0, .k (.int 6)])) [2]) [some (.loc 0), v1, v2, v3, v4, v5] [bx row a] = .ok (.d (.lst (ms.map .int))) [bx row a'] := by
  obtain ⟨k, k0, k4, ek⟩ := nx n hr hl ha (show (0 : Int) < 4 by decide)
  obtain ⟨ds, S', q, ms, rfl, hlen, hms, a', ha', rfl⟩ := lc_rng1 (cl := run prg (n + 1)) (j := 2) (ea := .bin .add (.k (.int 1)) (.call false 11 [.var 0, .k (.int 4)])) (e := .bin .add (.k (.int 1)) (.call false 11 [.var 0, .k (.int 6)])) (own := [2]) (env := [some (.loc 0), v1, v2, v3, v4, v5]) (S := [bx row a]) (S1 := [bx row (a + 1)]) (k := 1 + k)
    (fun i ds S => ∃ ms : List Int, ds = ms.map .int ∧ ms.length = i ∧ (∀ m ∈ ms, 1 ≤ m ∧ m ≤ 6) ∧ ∃ a', 0 ≤ a' ∧ S = [bx row a']) (by simp [ek]) (by omega) (by omega) ⟨[], rfl, rfl, fun m hm => (by cases hm), a + 1, by omega, rfl⟩ (fun i acc S ⟨ms, e, h, _⟩ => by rw [e, List.length_map, h])
    (fun i acc S hi ⟨ms, e, h, hms, a', ha', hS⟩ => by
      subst e hS
      obtain ⟨v, w0, w6, ev⟩ := nx n hr hl ha' (show (0 : Int) < 6 by decide)
      refine ⟨.int (1 + v), [bx row (a' + 1)], by simp [wipeE, ev], ms ++ [1 + v], by simp, by simp [h], fun m hm => ?_, a' + 1, by omega, rfl⟩
      rcases List.mem_append.mp hm with z | z
      · exact hms m z
      · rw [List.mem_singleton.mp z]; omega)
  exact ⟨ms, a', by omega, by omega, hms, ha', q⟩
theorem rules_ok (n : Nat) (hr : row ≠ []) (hl : row.length ≤ 400) {a : Int} (ha : 0 ≤ a) (v1 v2 v3 v4 v5 : Option W) : ∃ (rs : List (Int × Bool)) (a' : Int), rs.length ≤ 2 ∧ (∀ r ∈ rs, 1 ≤ r.1 ∧ r.1 ≤ 4) ∧ 0 ≤ a' ∧
    evE (run prg (n + 1)) (.lc false (.nm 2) .rng1 [.call false 11 [.var 0, .k (.int 3)]] [] (.tup [.bin .add (.k (.int 1)) (.call false 11 [.var 0, .k (.int 4)]), .cmp .eq (.call false 11 [.var 0, .k (.int 2)]) (.k (.int 1))]) [2]) [some (.loc 0), v1, v2, v3, v4, v5] [bx row a] = .ok (.d (.lst (rs.map ruD))) [bx row a'] := by
  obtain ⟨k, k0, k4, ek⟩ := nx n hr hl ha (show (0 : Int) < 3 by decide)
  obtain ⟨ds, S', q, rs, rfl, hlen, hms, a', ha', rfl⟩ := lc_rng1 (cl := run prg (n + 1)) (j := 2) (ea := .call false 11 [.var 0, .k (.int 3)]) (e := .tup [.bin .add (.k (.int 1)) (.call false 11 [.var 0, .k (.int 4)]), .cmp .eq (.call false 11 [.var 0, .k (.int 2)]) (.k (.int 1))]) (own := [2]) (env := [some (.loc 0), v1, v2, v3, v4, v5]) (S := [bx row a]) (S1 := [bx row (a + 1)]) (k := k)
    (fun i ds S => ∃ rs : List (Int × Bool), ds = rs.map ruD ∧ rs.length = i ∧ (∀ r ∈ rs, 1 ≤ r.1 ∧ r.1 ≤ 4) ∧ ∃ a', 0 ≤ a' ∧ S = [bx row a']) (by simp [ek]) (by omega) (by omega) ⟨[], rfl, rfl, fun m hm => (by cases hm), a + 1, by omega, rfl⟩ (fun i acc S ⟨ms, e, h, _⟩ => by rw [e, List.length_map, h])
    (fun i acc S hi ⟨rs, e, h, hms, a', ha', hS⟩ => by
      subst e hS
      obtain ⟨v, w0, w6, ev⟩ := nx n hr hl ha' (show (0 : Int) < 4 by decide)
      obtain ⟨u, u0, u6, eu⟩ := nx n hr hl (show 0 ≤ a' + 1 by omega) (show (0 : Int) < 2 by decide)
      refine ⟨.tup [.int (1 + v), .bl (u == 1)], [bx row (a' + 1 + 1)], by simp [wipeE, ev, eu, allD], rs ++ [(1 + v, u == 1)], by simp [ruD], by simp [h], fun m hm => ?_, a' + 1 + 1, by omega, rfl⟩
      rcases List.mem_append.mp hm with z | z
      · exact hms m z
      · rw [List.mem_singleton.mp z]
        show 1 ≤ 1 + v ∧ 1 + v ≤ 4
        omega)
  exact ⟨rs, a', by omega, hms, ha', q⟩
theorem tup_lst (ds : List D) (S : Sto) : biW .tuple [.d (.lst ds)] S = .ok (.d (.tup ds)) S := by
  simp [biW, seqOf, allD_ds]
theorem len_tup (ds : List D) (S : Sto) : biW .len [.d (.tup ds)] S = .ok (.d (.int ds.length)) S := by
  simp [biW, seqOf]
theorem law_calendar_ok (n : Nat) (hr : row ≠ []) (hl : row.length ≤ 400) {a : Int} (ha : 0 ≤ a) : ∃ c a', c.Ok ∧ isCyc c = false ∧ 0 ≤ a' ∧ callF (run prg (n + 2)) 12 [.loc 0] [bx row a] = .ok (.d c.D) [bx row a'] := by
  obtain ⟨ms, a1, m4, m1, mm, ha1, e1⟩ := months_ok n hr hl ha none none none none none
  obtain ⟨lo, l0, l1, e2⟩ := nx n hr hl ha1 (show (0 : Int) < ms.length by omega)
  obtain ⟨rs, a3, r2, rr, ha3, e3⟩ := rules_ok n hr hl (show 0 ≤ a1 + 1 by omega) (some (.d (msD ms))) none (some (.d (.int (1 + lo)))) none none
  obtain ⟨we, w0, w5, e4⟩ := nx n hr hl ha3 (show (0 : Int) < 5 by decide)
  obtain ⟨ex, x0, x3, e5⟩ := nx n hr hl (show 0 ≤ a3 + 1 by omega) (show (0 : Int) < 3 by decide)
  obtain ⟨fi, f0, f1, e6⟩ := nx n hr hl (show 0 ≤ a3 + 1 + 1 by omega) (show (0 : Int) < 1 + we by omega)
  obtain ⟨mi, i0, i6, e7⟩ := nx n hr hl (show 0 ≤ a3 + 1 + 1 + 1 by omega) (show (0 : Int) < 6 by decide)
  have hok : Cal.Ok ⟨ms, 1 + lo, ex, rs, 1 + we, fi, 1 + mi⟩ := ⟨m1, by show ms.length ≤ 24; omega, fun m hm => by have := mm m hm; omega, by show 1 ≤ 1 + lo; omega, by show 1 + lo ≤ ms.length; omega, x0, by show ex ≤ 30; omega, by show rs.length ≤ 6; omega, fun r hr => by have := rr r hr; omega, by show 1 ≤ 1 + we; omega, by show 1 + we ≤ 14; omega, f0, by show fi ≤ 1 + we - 1; omega, by show 1 ≤ 1 + mi; omega, by show 1 + mi ≤ 2000; omega⟩
  refine ⟨⟨ms, 1 + lo, ex, rs, 1 + we, fi, 1 + mi⟩, a3 + 1 + 1 + 1 + 1, hok, small_cyc hok rr r2, by omega, ?_⟩
  have e : run prg (n + 2) 12 [.loc 0] [bx row a] = .ok (.d (Cal.D ⟨ms, 1 + lo, ex, rs, 1 + we, fi, 1 + mi⟩)) [bx row (a3 + 1 + 1 + 1 + 1)] := by
    rw [run_fin rfl rfl (by decide)]
    simp [msD] at e3
    simp [c_law_calendar, e1, tup_lst, len_tup, bindT, e2, e3, e4, e5, e6, e7, allD, Cal.D, msD, rsD]
  unfold callF
  rw [show allD [.loc 0] = none from rfl]
  dsimp only
  rw [e]
  rfl
end
end K01
set_option Elab.async false
set_option linter.all false
set_option maxRecDepth 100000
set_option autoImplicit false
set_option maxHeartbeats 1000000
/-! K01f: spoilt calendars -/
namespace K01
open PySem L2 Pc
def wrongs (len : Int) (w : D) : Nat → List D
  | 0 => [.tup [], .tup [.int 0], .tup [.int 61], .tup [.int 3, .int 2, .bl true], .tup (List.replicate 25 (.int 1)), .lst [.int 3, .int 2], .tup [.int 4, .int (-1)]]
  | 1 => [.int 0, .int (len + 1), .int (-1), .bl true]
  | 2 => [.int (-1), .int 31, .bl false]
  | 3 => [.tup [.tup [.int 0, .bl true]], .tup [.tup [.int 1001, .bl false]], .tup [.tup [.int 2, .int 1]], .tup [.tup [.int 2]], .tup (List.replicate 7 (.tup [.int 2, .bl true])), .lst [], .tup [.tup [.bl true, .bl true]], .tup [.int 2, .bl true]]
  | 4 => [.int 0, .int 15, .bl true]
  | 5 => [.int (-1), w, .bl true]
  | 6 => [.int 0, .int 2001, .int (-5)]
  | _ => []
theorem ix_list {ds : List D} {i : Int} (S : Sto) (h0 : 0 ≤ i) (h1 : i < ds.length) : ∃ x, x ∈ ds ∧ ixW (.d (.lst ds)) (.d (.int i)) S = .ok (.d x) S := by
  have hlt : i.toNat < ds.length := by omega
  refine ⟨ds[i.toNat], List.getElem_mem hlt, ?_⟩
  simp [ixW, seqOf, atW, h0, List.getElem?_map, List.getElem?_eq_getElem hlt]
theorem len_lst (ds : List D) (S : Sto) : biW .len [.d (.lst ds)] S = .ok (.d (.int ds.length)) S := by
  simp [biW, seqOf]
theorem mul25 (S : Sto) : binW .mul (.d (.tup [.int 1])) (.d (.int 25)) S = .ok (.d (.tup (List.replicate 25 (.int 1)))) S := rfl
theorem mul7 (S : Sto) : binW .mul (.d (.tup [.tup [.int 2, .bl true]])) (.d (.int 7)) S = .ok (.d (.tup (List.replicate 7 (.tup [.int 2, .bl true])))) S := rfl
theorem add_tup (xs ys : List D) (S : Sto) (h : xs.length + ys.length ≤ 1000) : binW .add (.d (.tup xs)) (.d (.tup ys)) S = .ok (.d (.tup (xs ++ ys))) S := by
  show (if xs.length + ys.length ≤ maxLen then _ else _) = _
  rw [if_pos (Nat.le_trans h (by decide))]
theorem sl_to (ds : List D) (p : Nat) (S : Sto) (h : p ≤ ds.length) : slW (.d (.tup ds)) none (some (p : Int)) S = .ok (.d (.tup (ds.take p))) S := by
  have e : sIx ds.length ds.length (some (p : Int)) = p := by simp [sIx]; omega
  simp [slW, cutL, e]
  simp [sIx]
theorem sl_from (ds : List D) (p : Nat) (S : Sto) (h : p ≤ ds.length) : slW (.d (.tup ds)) (some (p : Int)) none S = .ok (.d (.tup (ds.drop p))) S := by
  have e : sIx ds.length 0 (some (p : Int)) = p := by simp [sIx]; omega
  have e2 : sIx ds.length ds.length none = ds.length := rfl
  simp [slW, cutL, e, e2]
  exact List.take_of_length_le (by simp)
section
variable {row : List Int}
theorem spoilt_ok (n : Nat) (hr : row ≠ []) (hl : row.length ≤ 400) {a : Int} (ha : 0 ≤ a) (xs : List D) (l ex r w f mi : D) (p : Nat) (hp : p < 7) :
    ∃ x a', x ∈ wrongs xs.length w p ∧ 0 ≤ a' ∧ callF (run prg (n + 2)) 14 [.loc 0, .d (.tup [.tup xs, l, ex, r, w, f, mi]), .d (.int p)] [bx row a] = .ok (.d (.tup (List.set [.tup xs, l, ex, r, w, f, mi] p x))) [bx row a'] := by
  have hw : 0 < (wrongs xs.length w p).length := by
    match p, hp with
    | 0, _ | 1, _ | 2, _ | 3, _ | 4, _ | 5, _ | 6, _ => simp [wrongs]
  obtain ⟨v, v0, v1, ev⟩ := nx n hr hl ha (show (0 : Int) < ((wrongs xs.length w p).length : Nat) by omega)
  obtain ⟨x, hx, hxx⟩ := ix_list (ds := wrongs xs.length w p) [bx row (a + 1)] v0 v1
  refine ⟨x, a + 1, hx, by omega, ?_⟩
  have hW : ∀ S, ixW (.d (.lst [.lst (wrongs xs.length w 0), .lst (wrongs xs.length w 1), .lst (wrongs xs.length w 2), .lst (wrongs xs.length w 3), .lst (wrongs xs.length w 4), .lst (wrongs xs.length w 5), .lst (wrongs xs.length w 6)])) (.d (.int p)) S = .ok (.d (.lst (wrongs xs.length w p))) S := fun S => by
    match p, hp with
    | 0, _ | 1, _ | 2, _ | 3, _ | 4, _ | 5, _ | 6, _ => rfl
  generalize wrongs xs.length w p = ws at hw v1 ev hx hxx hW ⊢
  generalize hds : [D.tup xs, l, ex, r, w, f, mi] = ds
  have hlen : ds.length = 7 := by rw [← hds]; rfl
  have s1 := sl_to ds p [bx row a] (by omega)
  have s2 := sl_from ds (p + 1) [bx row (a + 1)] (by omega)
  have s2 : slW (.d (.tup ds)) (some ((p : Int) + 1)) none [bx row (a + 1)] = .ok (.d (.tup (ds.drop (p + 1)))) [bx row (a + 1)] := s2
  have hrun : run prg (n + 2) 14 [.loc 0, .d (.tup ds), .d (.int p)] [bx row a] = .ok (.d (.tup (ds.set p x))) [bx row (a + 1)] := by
    rw [run_fin rfl rfl (by decide)]
    have hb : bindT (.tup [3, 4, 5, 6, 7, 8, 9]) (.d (.tup ds)) [some (.loc 0), some (.d (.tup ds)), some (.d (.int p)), none, none, none, none, none, none, none, none] [bx row a] = some [some (.loc 0), some (.d (.tup ds)), some (.d (.int p)), some (.d (.tup xs)), some (.d l), some (.d ex), some (.d r), some (.d w), some (.d f), some (.d mi), none] := by
      rw [← hds]; rfl
    have hW1 := hW [bx row a]
    simp [wrongs] at hW1
    simp [c_law_spoilt, hb, mul25, mul7, len_tup, allD]
    rw [hW1]
    simp [bindT, partW, s1, len_lst]
    rw [ev]
    simp [hxx, allD]
    rw [add_tup _ _ _ (by simp; omega)]
    simp [s2]
    rw [add_tup _ _ _ (by simp; omega)]
    simp
    rw [List.set_eq_take_append_cons_drop, if_pos (by omega)]
  unfold callF
  rw [show allD [.loc 0, .d (.tup ds), .d (.int p)] = none from rfl]
  dsimp only
  rw [hrun]
  rfl
end
end K01
set_option Elab.async false
set_option linter.all false
set_option maxRecDepth 100000
set_option autoImplicit false
set_option maxHeartbeats 1000000
/-! K01g: the faults of right and of spoilt calendars -/
namespace K01
open PySem L2 Pc
def DL (c : Cal) : List D := [msD c.ms, .int c.lo, .int c.ex, rsD c.rs, .int c.we, .int c.fi, .int c.mi]
theorem isI_int {lo hi i : Int} (h1 : lo ≤ i) (h2 : i ≤ hi) : isI lo hi (.int i) = true := by simp [isI, h1, h2]
section
variable {c : Cal}
theorem Cal.Ok.vM (h : c.Ok) : fM (msD c.ms) = true := by
  have h1 := h.m1
  have h2 := h.m2
  simp [fM, msD, h1, h2, isI]
  exact fun m hm => h.m3 m hm
theorem Cal.Ok.vL (h : c.Ok) : isI 1 (lenT (msD c.ms)) (.int c.lo) = true := isI_int h.l1 (by have := h.l2; simpa [lenT, msD] using this)
theorem Cal.Ok.vE (h : c.Ok) : isI 0 30 (.int c.ex) = true := isI_int h.e1 h.e2
theorem Cal.Ok.vR (h : c.Ok) : fR (rsD c.rs) = true := by
  have h1 := h.r1
  have h2 : ∀ r ∈ c.rs, fRp (ruD r) = true := fun r hr => by
    have := h.r2 r hr
    obtain ⟨a, b⟩ := r
    exact isI_int this.1 this.2
  simp only [fR, rsD, List.length_map, decide_eq_true h1, Bool.true_and, List.all_map]
  exact List.all_eq_true.mpr h2
theorem Cal.Ok.vW (h : c.Ok) : isI 1 14 (.int c.we) = true := isI_int h.w1 h.w2
theorem Cal.Ok.vF (h : c.Ok) : isI 0 (intD (.int c.we) - 1) (.int c.fi) = true := isI_int h.f1 h.f2
theorem Cal.Ok.vI (h : c.Ok) : isI 1 2000 (.int c.mi) = true := isI_int h.i1 h.i2
theorem flM (ms : List Int) : flat1 (msD ms) = true := by simp [flat1, msD, isScr]
theorem flR (rs : List (Int × Bool)) : flat2 (rsD rs) = true := by simp [flat2, rsD, ruD, flat1, isScr]
def cyD (b : Bool) : D := if b then .str "cycle" else .non
theorem fault_valid (n : Nat) (S : Sto) (h : c.Ok) : callF (run prg (n + 4)) 4 [.d c.D] S = .ok (.d (cyD (isCyc c))) S := by
  have q := calendar_fault_ok n (msD c.ms) (.int c.lo) (.int c.ex) (rsD c.rs) (.int c.we) (.int c.fi) (.int c.mi) (isCyc c) S (flM _) rfl rfl (flR _) rfl rfl rfl (fun _ => ⟨c, h, rfl, rfl⟩)
  rw [show callF (run prg (n + 4)) 4 [.d c.D] S = _ from q]
  simp only [cfD, h.vM, h.vL, h.vE, h.vR, h.vW, h.vF, h.vI]
  cases isCyc c <;> rfl
theorem fault_bad (n : Nat) {m l e r w f mi : D} (S : Sto) (f1 : flat1 m = true) (f2 : isScr l = false) (f3 : isScr e = false) (f4 : flat2 r = true) (f5 : isScr w = false) (f6 : isScr f = false) (f7 : isScr mi = false) (hb : okD m l e r w f mi = false) :
    callF (run prg (n + 4)) 4 [.d (.tup [m, l, e, r, w, f, mi])] S = .ok (.d (cfD m l e r w f mi false)) S :=
  calendar_fault_ok n m l e r w f mi false S f1 f2 f3 f4 f5 f6 f7 (fun z => by rw [hb] at z; cases z)
/-! ### what is wrong, is wrong -/
theorem w0 {len : Int} {w x : D} (h : x ∈ wrongs len w 0) : flat1 x = true ∧ fM x = false := by
  simp only [wrongs, List.mem_cons, List.not_mem_nil, or_false] at h
  rcases h with rfl | rfl | rfl | rfl | rfl | rfl | rfl <;> exact ⟨rfl, rfl⟩
theorem w1 {len : Int} {w x : D} (h : x ∈ wrongs len w 1) : isScr x = false ∧ isI 1 len x = false := by
  simp only [wrongs, List.mem_cons, List.not_mem_nil, or_false] at h
  rcases h with rfl | rfl | rfl | rfl
  · exact ⟨rfl, by simp [isI]⟩
  · exact ⟨rfl, by simp [isI]; omega⟩
  · exact ⟨rfl, by simp [isI]⟩
  · exact ⟨rfl, rfl⟩
theorem w2 {len : Int} {w x : D} (h : x ∈ wrongs len w 2) : isScr x = false ∧ isI 0 30 x = false := by
  simp only [wrongs, List.mem_cons, List.not_mem_nil, or_false] at h
  rcases h with rfl | rfl | rfl <;> exact ⟨rfl, rfl⟩
theorem w3 {len : Int} {w x : D} (h : x ∈ wrongs len w 3) : flat2 x = true ∧ fR x = false := by
  simp only [wrongs, List.mem_cons, List.not_mem_nil, or_false] at h
  rcases h with rfl | rfl | rfl | rfl | rfl | rfl | rfl | rfl <;> exact ⟨rfl, rfl⟩
theorem w4 {len : Int} {w x : D} (h : x ∈ wrongs len w 4) : isScr x = false ∧ isI 1 14 x = false := by
  simp only [wrongs, List.mem_cons, List.not_mem_nil, or_false] at h
  rcases h with rfl | rfl | rfl <;> exact ⟨rfl, rfl⟩
theorem w5 {len we : Int} {x : D} (h : x ∈ wrongs len (.int we) 5) : isScr x = false ∧ isI 0 (intD (.int we) - 1) x = false := by
  simp only [wrongs, List.mem_cons, List.not_mem_nil, or_false] at h
  rcases h with rfl | rfl | rfl
  · exact ⟨rfl, by simp [isI]⟩
  · exact ⟨rfl, by show (decide (0 ≤ we) && decide (we ≤ we - 1)) = false; rw [decide_eq_false (show ¬ we ≤ we - 1 by omega), Bool.and_false]⟩
  · exact ⟨rfl, rfl⟩
theorem w6 {len : Int} {w x : D} (h : x ∈ wrongs len w 6) : isScr x = false ∧ isI 1 2000 x = false := by
  simp only [wrongs, List.mem_cons, List.not_mem_nil, or_false] at h
  rcases h with rfl | rfl | rfl <;> exact ⟨rfl, rfl⟩
theorem lenM (ms : List Int) : lenT (msD ms) = ms.length := by simp [lenT, msD]
section
variable (n : Nat) (S : Sto) {m l e r w f mi z : D} {wi : Int}
theorem bad0 (hz : z ∈ wrongs wi m 0) (f2 : isScr l = false) (f3 : isScr e = false) (f4 : flat2 r = true) (f5 : isScr w = false) (f6 : isScr f = false) (f7 : isScr mi = false) : callF (run prg (n + 4)) 4 [.d (.tup [z, l, e, r, w, f, mi])] S = .ok (.d (.str "months")) S := by
  rw [fault_bad n S (w0 hz).1 f2 f3 f4 f5 f6 f7 (by simp [okD, (w0 hz).2])]
  simp [cfD, (w0 hz).2]
theorem bad1 (h : c.Ok) (hz : z ∈ wrongs c.ms.length m 1) (f3 : isScr e = false) (f4 : flat2 r = true) (f5 : isScr w = false) (f6 : isScr f = false) (f7 : isScr mi = false) : callF (run prg (n + 4)) 4 [.d (.tup [msD c.ms, z, e, r, w, f, mi])] S = .ok (.d (.str "longer")) S := by
  have q := (w1 hz).2
  rw [← lenM] at q
  rw [fault_bad n S (flM _) (w1 hz).1 f3 f4 f5 f6 f7 (by simp [okD, q])]
  simp [cfD, h.vM, q]
theorem bad2 (h : c.Ok) (hz : z ∈ wrongs wi m 2) (f4 : flat2 r = true) (f5 : isScr w = false) (f6 : isScr f = false) (f7 : isScr mi = false) : callF (run prg (n + 4)) 4 [.d (.tup [msD c.ms, .int c.lo, z, r, w, f, mi])] S = .ok (.d (.str "extra")) S := by
  rw [fault_bad n S (flM _) rfl (w2 hz).1 f4 f5 f6 f7 (by simp [okD, (w2 hz).2])]
  simp [cfD, h.vM, h.vL, (w2 hz).2]
theorem bad3 (h : c.Ok) (hz : z ∈ wrongs wi m 3) (f5 : isScr w = false) (f6 : isScr f = false) (f7 : isScr mi = false) : callF (run prg (n + 4)) 4 [.d (.tup [msD c.ms, .int c.lo, .int c.ex, z, w, f, mi])] S = .ok (.d (.str "rules")) S := by
  rw [fault_bad n S (flM _) rfl rfl (w3 hz).1 f5 f6 f7 (by simp [okD, (w3 hz).2])]
  simp [cfD, h.vM, h.vL, h.vE, (w3 hz).2]
theorem bad4 (h : c.Ok) (hz : z ∈ wrongs wi m 4) (f6 : isScr f = false) (f7 : isScr mi = false) : callF (run prg (n + 4)) 4 [.d (.tup [msD c.ms, .int c.lo, .int c.ex, rsD c.rs, z, f, mi])] S = .ok (.d (.str "week")) S := by
  rw [fault_bad n S (flM _) rfl rfl (flR _) (w4 hz).1 f6 f7 (by simp [okD, (w4 hz).2])]
  simp [cfD, h.vM, h.vL, h.vE, h.vR, (w4 hz).2]
theorem bad5 (h : c.Ok) (hz : z ∈ wrongs wi (.int c.we) 5) (f7 : isScr mi = false) : callF (run prg (n + 4)) 4 [.d (.tup [msD c.ms, .int c.lo, .int c.ex, rsD c.rs, .int c.we, z, mi])] S = .ok (.d (.str "first")) S := by
  rw [fault_bad n S (flM _) rfl rfl (flR _) rfl (w5 hz).1 f7 (by simp [okD, (w5 hz).2])]
  simp [cfD, h.vM, h.vL, h.vE, h.vR, h.vW, (w5 hz).2]
theorem bad6 (h : c.Ok) (hz : z ∈ wrongs wi m 6) : callF (run prg (n + 4)) 4 [.d (.tup [msD c.ms, .int c.lo, .int c.ex, rsD c.rs, .int c.we, .int c.fi, z])] S = .ok (.d (.str "minutes")) S := by
  rw [fault_bad n S (flM _) rfl rfl (flR _) rfl rfl (w6 hz).1 (by simp [okD, (w6 hz).2])]
  simp [cfD, h.vM, h.vL, h.vE, h.vR, h.vW, h.vF, (w6 hz).2]
def word : Nat → Str
  | 0 => "months" | 1 => "longer" | 2 => "extra" | 3 => "rules" | 4 => "week" | 5 => "first" | _ => "minutes"
theorem fault_one (h : c.Ok) (p : Nat) (hp : p < 7) {x : D} (hx : x ∈ wrongs c.ms.length (.int c.we) p) : callF (run prg (n + 4)) 4 [.d (.tup ((DL c).set p x))] S = .ok (.d (.str (word p))) S := by
  match p, hp, hx with
  | 0, _, hx => exact bad0 n S hx rfl rfl (flR _) rfl rfl rfl
  | 1, _, hx => exact bad1 n S h hx rfl (flR _) rfl rfl rfl
  | 2, _, hx => exact bad2 n S h hx (flR _) rfl rfl rfl
  | 3, _, hx => exact bad3 n S h hx rfl rfl rfl
  | 4, _, hx => exact bad4 n S h hx rfl rfl
  | 5, _, hx => exact bad5 n S h hx rfl
  | 6, _, hx => exact bad6 n S h hx
theorem fault_two (h : c.Ok) (p q : Nat) (hp : p < 7) (hq : q < 7) (hpq : p ≠ q) (p0 : p ≠ 0) (p4 : p ≠ 4) (q0 : q ≠ 0) (q4 : q ≠ 4) {x y : D} (hx : x ∈ wrongs c.ms.length (.int c.we) p) (hy : y ∈ wrongs c.ms.length (.int c.we) q) :
    callF (run prg (n + 4)) 4 [.d (.tup (((DL c).set p x).set q y))] S = .ok (.d (.str (word (min p q)))) S := by
  match p, hp, hpq, p0, p4, hx with
  | 0, _, _, p0, _, _ => exact absurd rfl p0
  | 4, _, _, _, p4, _ => exact absurd rfl p4
  | 1, _, hpq, _, _, hx => match q, hq, hpq, q0, q4, hy with
    | 0, _, _, q0, _, _ => exact absurd rfl q0
    | 4, _, _, _, q4, _ => exact absurd rfl q4
    | 1, _, hpq, _, _, _ => exact absurd rfl hpq
    | 2, _, _, _, _, hy => exact bad1 n S h hx (w2 hy).1 (flR _) rfl rfl rfl
    | 3, _, _, _, _, hy => exact bad1 n S h hx rfl (w3 hy).1 rfl rfl rfl
    | 5, _, _, _, _, hy => exact bad1 n S h hx rfl (flR _) rfl (w5 hy).1 rfl
    | 6, _, _, _, _, hy => exact bad1 n S h hx rfl (flR _) rfl rfl (w6 hy).1
  | 2, _, hpq, _, _, hx => match q, hq, hpq, q0, q4, hy with
    | 0, _, _, q0, _, _ => exact absurd rfl q0
    | 4, _, _, _, q4, _ => exact absurd rfl q4
    | 2, _, hpq, _, _, _ => exact absurd rfl hpq
    | 1, _, _, _, _, hy => exact bad1 n S h hy (w2 hx).1 (flR _) rfl rfl rfl
    | 3, _, _, _, _, hy => exact bad2 n S h hx (w3 hy).1 rfl rfl rfl
    | 5, _, _, _, _, hy => exact bad2 n S h hx (flR _) rfl (w5 hy).1 rfl
    | 6, _, _, _, _, hy => exact bad2 n S h hx (flR _) rfl rfl (w6 hy).1
  | 3, _, hpq, _, _, hx => match q, hq, hpq, q0, q4, hy with
    | 0, _, _, q0, _, _ => exact absurd rfl q0
    | 4, _, _, _, q4, _ => exact absurd rfl q4
    | 3, _, hpq, _, _, _ => exact absurd rfl hpq
    | 1, _, _, _, _, hy => exact bad1 n S h hy rfl (w3 hx).1 rfl rfl rfl
    | 2, _, _, _, _, hy => exact bad2 n S h hy (w3 hx).1 rfl rfl rfl
    | 5, _, _, _, _, hy => exact bad3 n S h hx rfl (w5 hy).1 rfl
    | 6, _, _, _, _, hy => exact bad3 n S h hx rfl rfl (w6 hy).1
  | 5, _, hpq, _, _, hx => match q, hq, hpq, q0, q4, hy with
    | 0, _, _, q0, _, _ => exact absurd rfl q0
    | 4, _, _, _, q4, _ => exact absurd rfl q4
    | 5, _, hpq, _, _, _ => exact absurd rfl hpq
    | 1, _, _, _, _, hy => exact bad1 n S h hy rfl (flR _) rfl (w5 hx).1 rfl
    | 2, _, _, _, _, hy => exact bad2 n S h hy (flR _) rfl (w5 hx).1 rfl
    | 3, _, _, _, _, hy => exact bad3 n S h hy rfl (w5 hx).1 rfl
    | 6, _, _, _, _, hy => exact bad5 n S h hx (w6 hy).1
  | 6, _, hpq, _, _, hx => match q, hq, hpq, q0, q4, hy with
    | 0, _, _, q0, _, _ => exact absurd rfl q0
    | 4, _, _, _, q4, _ => exact absurd rfl q4
    | 6, _, hpq, _, _, _ => exact absurd rfl hpq
    | 1, _, _, _, _, hy => exact bad1 n S h hy rfl (flR _) rfl rfl (w6 hx).1
    | 2, _, _, _, _, hy => exact bad2 n S h hy (flR _) rfl rfl (w6 hx).1
    | 3, _, _, _, _, hy => exact bad3 n S h hy rfl rfl (w6 hx).1
    | 5, _, _, _, _, hy => exact bad5 n S h hy (w6 hx).1
end
theorem cyc_great (h : c.Ok) : isCyc c = decide (400000 < cm (days c) c.we) := by
  obtain ⟨y1, y2⟩ := h.yrs
  obtain ⟨d1, d2⟩ := dayP_ge h (yrs c.rs).toNat
  have d1 : ((yrs c.rs).toNat : Int) ≤ days c := d1
  obtain ⟨q, _, _⟩ := cm_ge (a := days c) (b := c.we) (by omega) h.w1
  unfold isCyc
  by_cases hy : 400000 < yrs c.rs
  · rw [decide_eq_true hy, decide_eq_true (show 400000 < cm (days c) c.we by omega)]; rfl
  · rw [decide_eq_false hy, Bool.false_or]
end
end K01
set_option Elab.async false
set_option linter.all false
set_option maxRecDepth 100000
set_option autoImplicit false
set_option maxHeartbeats 2000000
/-! K01h: the law -/
namespace K01
open PySem L2 Pc
def wordsD : D := .lst [.str "months", .str "longer", .str "extra", .str "rules", .str "week", .str "first", .str "minutes"]
theorem words_at (p : Nat) (hp : p < 7) (S : Sto) : ixW (.d wordsD) (.d (.int p)) S = .ok (.d (.str (word p))) S := by
  match p, hp with
  | 0, _ | 1, _ | 2, _ | 3, _ | 4, _ | 5, _ | 6, _ => rfl
theorem cw_nes (a b : Str) (S : Sto) : cmpW .ne (.d (.str a)) (.d (.str b)) S = .ok (.d (.bl (!(a == b)))) S := rfl
theorem cw_cy (a b : Bool) (S : Sto) : cmpW .ne (.d (cyD a)) (.d (cyD b)) S = .ok (.d (.bl (!(a == b)))) S := by
  have h1 : ∀ b, shp (cyD b) = true := fun b => by
    cases b
    · rfl
    · decide +kernel
  rw [cw_ne (h1 a) (h1 b)]
  cases a <;> cases b <;> simp [cyD, eqD]
theorem nat_of {v : Int} (h0 : 0 ≤ v) (h1 : v < 7) : ∃ p : Nat, v = p ∧ p < 7 := ⟨v.toNat, by omega, by omega⟩
section
variable {row : List Int} {c : Cal}
/-- one member is spoilt -/
theorem spoil1 (n : Nat) (hr : row ≠ []) (hl : row.length ≤ 400) {a : Int} (ha : 0 ≤ a) (h : c.Ok) (p : Nat) (hp : p < 7) :
    ∃ x a', x ∈ wrongs c.ms.length (.int c.we) p ∧ 0 ≤ a' ∧ callF (run prg (n + 2)) 14 [.loc 0, .d c.D, .d (.int p)] [bx row a] = .ok (.d (.tup ((DL c).set p x))) [bx row a'] := by
  obtain ⟨x, a', hx, ha', e⟩ := spoilt_ok n hr hl ha (c.ms.map .int) (.int c.lo) (.int c.ex) (rsD c.rs) (.int c.we) (.int c.fi) (.int c.mi) p hp
  rw [List.length_map] at hx
  exact ⟨x, a', hx, ha', e⟩
theorem spoil2 (n : Nat) (hr : row ≠ []) (hl : row.length ≤ 400) {a : Int} (ha : 0 ≤ a) (p q : Nat) (hp : p < 7) (hq : q < 7) (p0 : p ≠ 0) (p4 : p ≠ 4) (x : D) :
    ∃ y a', y ∈ wrongs c.ms.length (.int c.we) q ∧ 0 ≤ a' ∧ callF (run prg (n + 2)) 14 [.loc 0, .d (.tup ((DL c).set p x)), .d (.int q)] [bx row a] = .ok (.d (.tup (((DL c).set p x).set q y))) [bx row a'] := by
  obtain ⟨l, e, r, f, mi, hd⟩ : ∃ l e r f mi, (DL c).set p x = [.tup (c.ms.map .int), l, e, r, .int c.we, f, mi] := by
    match p, hp, p0, p4 with
    | 0, _, z, _ => exact absurd rfl z
    | 4, _, _, z => exact absurd rfl z
    | 1, _, _, _ | 2, _, _, _ | 3, _, _, _ | 5, _, _, _ | 6, _, _, _ => exact ⟨_, _, _, _, _, rfl⟩
  obtain ⟨y, a', hy, ha', e1⟩ := spoilt_ok n hr hl ha (c.ms.map .int) l e r (.int c.we) f mi q hq
  rw [List.length_map] at hy
  rw [hd]
  exact ⟨y, a', hy, ha', e1⟩
theorem step8 (n : Nat) (hr : row ≠ []) (hl : row.length ≤ 400) {a : Int} (ha : 0 ≤ a) (h : c.Ok) (p q : Nat) (hp : p < 7) (hq : q < 7) {x : D} (hx : x ∈ wrongs c.ms.length (.int c.we) p) (v0 v7 v8 v9 v10 v11 v12 v13 v14 : Option W) :
    ∃ a', 0 ≤ a' ∧ exS (run prg (n + 4)) s_law_8 [v0, some (.loc 0), some (.d wordsD), some (.d c.D), some (.d (.int p)), some (.d (.tup ((DL c).set p x))), some (.d (.int q)), v7, v8, v9, v10, v11, v12, v13, v14] [bx row a] =
      .ok (.nx, [v0, some (.loc 0), some (.d wordsD), some (.d c.D), some (.d (.int p)), some (.d (.tup ((DL c).set p x))), some (.d (.int q)), v7, v8, v9, v10, v11, v12, v13, v14]) [bx row a'] := by
  have nin : ∀ (k : Nat) S, cmpW .nin (.d (.int k)) (.d (.tup [.int 0, .int 4])) S = .ok (.d (.bl (!(decide (k = 0) || decide (k = 4))))) S := fun k S => by
    have e1 : ((0 : Int) == (k : Int)) = decide (k = 0) := by
      by_cases hk : k = 0
      · subst hk; rfl
      · rw [decide_eq_false hk, beq_eq_false_iff_ne]; omega
    have e2 : ((4 : Int) == (k : Int)) = decide (k = 4) := by
      by_cases hk : k = 4
      · subst hk; rfl
      · rw [decide_eq_false hk, beq_eq_false_iff_ne]; omega
    simp [cmpW, isFlat, eqD, e1, e2]
  have ne1 : ∀ S, cmpW .ne (.d (.int q)) (.d (.int p)) S = .ok (.d (.bl (!decide (q = p)))) S := fun S => by
    have e1 : ((q : Int) == (p : Int)) = decide (q = p) := by
      by_cases hk : q = p
      · subst hk; simp
      · rw [decide_eq_false hk, beq_eq_false_iff_ne]; omega
    rw [cw_nei, e1]
  by_cases hc : q ≠ p ∧ p ≠ 0 ∧ p ≠ 4 ∧ q ≠ 0 ∧ q ≠ 4
  · obtain ⟨h1, h2, h3, h4, h5⟩ := hc
    obtain ⟨y, a', hy, ha', e⟩ := spoil2 (c := c) (n + 2) hr hl ha p q hp hq h2 h3 x
    have e2 := fault_two n [bx row a'] h p q hp hq (Ne.symm h1) h2 h3 h4 h5 hx hy
    have e3 : ∀ S, biW .min [.d (.int p), .d (.int q)] S = .ok (.d (.int ((min p q : Nat) : Int))) S := fun S => by
      show Pc.R.ok (W.d (.int (if (q : Int) < p then (q : Int) else p))) S = _
      by_cases hlt : (q : Int) < p
      · rw [if_pos hlt, show min p q = q by omega]
      · rw [if_neg hlt, show min p q = p by omega]
    refine ⟨a', ha', ?_⟩
    simp [s_law_8, ne1, nin, h1, h2, h3, h4, h5, allD, e, e2, e3]
    rw [words_at _ (by omega)]
    simp [cw_nes]
  · refine ⟨a, ha, ?_⟩
    simp [s_law_8, ne1, nin, allD]
    by_cases h1 : q = p <;> by_cases h2 : p = 0 <;> by_cases h3 : p = 4 <;> by_cases h4 : q = 0 <;> by_cases h5 : q = 4 <;> simp_all
/-- a right calendar is judged as the law judges -/
theorem judged (n : Nat) (h : c.Ok) (S : Sto) : callF (run prg (n + 4)) 4 [.d c.D] S = .ok (.d (cyD (!decide (cm (days c) c.we ≤ 400000)))) S := by
  rw [fault_valid n S h, cyc_great h]
  congr 4
  by_cases hh : 400000 < cm (days c) c.we
  · rw [decide_eq_true hh, decide_eq_false (by omega)]; rfl
  · rw [decide_eq_false hh, decide_eq_true (by omega)]; rfl
end
end K01
set_option Elab.async false
set_option linter.all false
set_option maxRecDepth 100000
set_option autoImplicit false
set_option maxHeartbeats 4000000
/-! K01i: the law holds -/
namespace K01
open PySem L2 Pc
def gC : Cal := ⟨[31, 28, 31, 30, 31, 30, 31, 31, 30, 31, 30, 31], 2, 1, [(4, true), (100, false), (400, true)], 7, 5, 1440⟩
theorem gC_ok : gC.Ok := ⟨by decide, by decide, by decide, by decide, by decide, by decide, by decide, by decide, by decide, by decide, by decide, by decide, by decide, by decide, by decide⟩
theorem gC_cyc : isCyc gC = false := by decide +kernel
def sC : Cal := ⟨List.replicate 24 60, 24, 30, [(1, true), (2, false), (4, true), (2, true), (1, false), (2, true)], 14, 13, 2000⟩
theorem sC_ok : sC.Ok := ⟨by decide, by decide, by decide, by decide, by decide, by decide, by decide, by decide, by decide, by decide, by decide, by decide, by decide, by decide, by decide⟩
theorem sC_cyc : isCyc sC = false := by decide +kernel
def jC (ex : Int) : Cal := ⟨List.replicate 8 50, 1, ex, [(1000, true)], 10, 0, 5⟩
theorem jC_ok0 : (jC 0).Ok := ⟨by decide, by decide, by decide, by decide, by decide, by decide, by decide, by decide, by decide, by decide, by decide, by decide, by decide, by decide, by decide⟩
theorem jC_ok1 : (jC 1).Ok := ⟨by decide, by decide, by decide, by decide, by decide, by decide, by decide, by decide, by decide, by decide, by decide, by decide, by decide, by decide, by decide⟩
theorem jC_cyc0 : isCyc (jC 0) = false := by decide +kernel
theorem jC_cyc1 : isCyc (jC 1) = true := by decide +kernel
theorem ok_of (ms : List Int) (lo ex : Int) (rs : List (Int × Bool)) (we fi mi : Int) (m1 : 1 ≤ ms.length) (m2 : ms.length ≤ 24) (m3 : ∀ m ∈ ms, 1 ≤ m ∧ m ≤ 60) (l1 : 1 ≤ lo) (l2 : lo ≤ ms.length) (e1 : 0 ≤ ex) (e2 : ex ≤ 30) (r1 : rs.length ≤ 6) (r2 : ∀ r ∈ rs, 1 ≤ r.1 ∧ r.1 ≤ 1000)
    (w1 : 1 ≤ we) (w2 : we ≤ 14) (f1 : 0 ≤ fi) (f2 : fi ≤ we - 1) (i1 : 1 ≤ mi) (i2 : mi ≤ 2000) : Cal.Ok ⟨ms, lo, ex, rs, we, fi, mi⟩ := ⟨m1, m2, m3, l1, l2, e1, e2, r1, r2, w1, w2, f1, f2, i1, i2⟩
section
variable {row : List Int}
/-- what is judged of a right calendar is right -/
theorem judge (n : Nat) {c : Cal} (h : c.Ok) (S : Sto) (i : Nat) (env : Pc.Env) (he : env[i]? = some (some (.d c.D))) :
    exS (run prg (n + 4)) (.ifs (.cmp .ne (.call false 4 [.var i]) (.ife (.cmp .le (.call false 15 [.var i]) (.k (.int 400000))) (.k (.non)) (.k (.str "cycle")))) [.ret (.k (.bl false))] []) env S = .ok (.nx, env) S := by
  have e1 := judged n h S
  have e2 := law_great_ok (n + 2) c S h
  have e2 : callF (run prg (n + 4)) 15 [.d c.D] S = _ := e2
  have e3 : (W.d D.non) = .d (cyD false) := rfl
  have e4 : (W.d (D.str "cycle")) = .d (cyD true) := rfl
  simp [he, e1, e2]
  by_cases hh : cm (days c) c.we ≤ 400000
  · simp only [hh, decide_true, Bool.not_true, if_true, p_bok]
    rw [e3, cw_cy]
    simp
  · simp only [hh, decide_false, Bool.not_false, if_false, p_bok]
    rw [e4, cw_cy]
    simp
theorem step12 (n : Nat) (hr : row ≠ []) (hl : row.length ≤ 400) {a : Int} (ha : 0 ≤ a) {c1 c2 : Cal} (h1 : c1.Ok) (h2 : c2.Ok) (v0 v2 v3 v4 v5 v6 v7 v11 v12 v13 v14 : Option W) :
    ∃ a' v10, 0 ≤ a' ∧ exS (run prg (n + 4)) s_law_12 [v0, some (.loc 0), v2, v3, v4, v5, v6, v7, some (.d c1.D), some (.d c2.D), none, v11, v12, v13, v14] [bx row a] =
      .ok (.nx, [v0, some (.loc 0), v2, v3, v4, v5, v6, v7, some (.d c1.D), some (.d c2.D), v10, v11, v12, v13, v14]) [bx row a'] := by
  obtain ⟨v, v0', v3', ev⟩ := nx (n + 3) hr hl ha (show (0 : Int) < 3 by decide)
  have ev : callF (run prg (n + 4)) 11 [.loc 0, .d (.int 3)] [bx row a] = _ := ev
  obtain ⟨we, hw1, hw2, ew⟩ : ∃ we : Int, 1 ≤ we ∧ we ≤ 14 ∧ ixW (.d (.lst [.int 10, .int 11, .int 9])) (.d (.int v)) [bx row (a + 1)] = .ok (.d (.int we)) [bx row (a + 1)] := by
    obtain ⟨x, hx, e⟩ := ix_list (ds := [.int 10, .int 11, .int 9]) [bx row (a + 1)] v0' v3'
    simp only [List.mem_cons, List.not_mem_nil, or_false] at hx
    rcases hx with rfl | rfl | rfl
    · exact ⟨10, by decide, by decide, e⟩
    · exact ⟨11, by decide, by decide, e⟩
    · exact ⟨9, by decide, by decide, e⟩
  have h3 : Cal.Ok ⟨[40], 1, 0, [(1000, true)], we, 0, 5⟩ := ok_of _ _ _ _ _ _ _ (by decide) (by decide) (by decide) (by decide) (by decide) (by decide) (by decide) (by decide) (by decide) hw1 hw2 (by decide) (by omega) (by decide) (by decide)
  have hsrc : evEs (run prg (n + 4)) [.lst false [.var 8, .var 9, .tup [.tup [.k (.int 40)], .k (.int 1), .k (.int 0), .tup [.tup [.k (.int 1000), .k (.bl true)]], .ix (.lst false [.k (.int 10), .k (.int 11), .k (.int 9)]) (.call false 11 [.var 1, .k (.int 3)]), .k (.int 0), .k (.int 5)]]] [v0, some (.loc 0), v2, v3, v4, v5, v6, v7, some (.d c1.D), some (.d c2.D), none, v11, v12, v13, v14] [bx row a] =
      .ok [.d (.lst [c1.D, c2.D, Cal.D ⟨[40], 1, 0, [(1000, true)], we, 0, 5⟩])] [bx row (a + 1)] := by
    simp [allD, ev, ew]
    rfl
  obtain ⟨e', S', q, rfl, v10, rfl⟩ := for_all (t := .nm 10) (it := .seq) (a := [.ifs (.cmp .ne (.call false 4 [.var 10]) (.ife (.cmp .le (.call false 15 [.var 10]) (.k (.int 400000))) (.k (.non)) (.k (.str "cycle")))) [.ret (.k (.bl false))] []]) (items := [.d c1.D, .d c2.D, .d (Cal.D ⟨[40], 1, 0, [(1000, true)], we, 0, 5⟩)]) hsrc rfl
    (Iv := fun _ e S => S = [bx row (a + 1)] ∧ ∃ v10, e = [v0, some (.loc 0), v2, v3, v4, v5, v6, v7, some (.d c1.D), some (.d c2.D), v10, v11, v12, v13, v14]) ⟨rfl, none, rfl⟩ (fun _ _ _ _ => by exact True.intro) (fun i x e S hx hI => by
      obtain ⟨rfl, v10, rfl⟩ := hI
      obtain ⟨c, hc, rfl⟩ : ∃ c : Cal, c.Ok ∧ x = .d c.D := by
        match i, hx with
        | 0, hx => exact ⟨c1, h1, (Option.some.inj hx).symm⟩
        | 1, hx => exact ⟨c2, h2, (Option.some.inj hx).symm⟩
        | 2, hx => exact ⟨_, h3, (Option.some.inj hx).symm⟩
        | k + 3, hx => cases hx
      refine ⟨[v0, some (.loc 0), v2, v3, v4, v5, v6, v7, some (.d c1.D), some (.d c2.D), some (.d c.D), v11, v12, v13, v14], _, ?_, rfl, _, rfl⟩
      have q := judge n hc [bx row (a + 1)] 10 [v0, some (.loc 0), v2, v3, v4, v5, v6, v7, some (.d c1.D), some (.d c2.D), some (.d c.D), v11, v12, v13, v14] rfl
      simp only [bindT, p_ofs, p_lok, List.set_cons_succ, List.set_cons_zero]
      rw [p_scons, q]
      simp)
  exact ⟨a + 1, v10, by omega, q⟩
theorem D_of {n : Nat} : ∀ (k : Nat) {ms : List D}, (List.replicate k [D.int n]).flatten = List.replicate k (D.int n)
  | 0, _ => rfl
  | k + 1, ms => by rw [List.replicate_succ, List.flatten_cons, D_of k (ms := ms)]; rfl
theorem mul60 (u : Int) (u0 : 0 ≤ u) (u12 : u < 12) (S : Sto) : binW .mul (.d (.lst [.int 60])) (.d (.int (13 + u))) S = .ok (.d (.lst (List.replicate (13 + u).toNat (.int 60)))) S := by
  show (if 0 ≤ 13 + u ∧ 13 + u < 2 ^ 63 ∧ 1 * (13 + u).toNat ≤ maxLen then _ else _) = _
  rw [if_pos ⟨by omega, by omega, Nat.le_trans (show 1 * (13 + u).toNat ≤ 100 by omega) (by decide)⟩, show (D.int 60) = D.int ((60 : Nat) : Int) from rfl, D_of (ms := [])]
theorem m24 (S : Sto) : binW .mul (.d (.tup [.int 60])) (.d (.int 24)) S = .ok (.d (msD sC.ms)) S := rfl
theorem m8 (S : Sto) : binW .mul (.d (.tup [.int 50])) (.d (.int 8)) S = .ok (.d (msD (jC 0).ms)) S := rfl
theorem j1 (S : Sto) : slW (.d (jC 0).D) none (some 2) S = .ok (.d (.tup [msD (jC 0).ms, .int 1])) S := rfl
theorem j2 (S : Sto) : slW (.d (jC 0).D) (some 3) none S = .ok (.d (.tup [rsD (jC 0).rs, .int 10, .int 0, .int 5])) S := rfl
theorem j3 (S : Sto) : binW .add (.d (.tup [msD (jC 0).ms, .int 1])) (.d (.tup [.int 1])) S = .ok (.d (.tup [msD (jC 0).ms, .int 1, .int 1])) S := add_tup _ _ _ (by simp)
theorem j4 (S : Sto) : binW .add (.d (.tup [msD (jC 0).ms, .int 1, .int 1])) (.d (.tup [rsD (jC 0).rs, .int 10, .int 0, .int 5])) S = .ok (.d (jC 1).D) S := add_tup _ _ _ (by simp)
theorem esm (S : Sto) : callF (run prg 4) 4 [.d sC.D] S = .ok (.d .non) S := by
  have q := fault_valid 0 S sC_ok
  rw [sC_cyc] at q
  exact q
theorem ej0 (S : Sto) : callF (run prg 4) 4 [.d (jC 0).D] S = .ok (.d .non) S := by
  have q := fault_valid 0 S jC_ok0
  rw [jC_cyc0] at q
  exact q
theorem ej1 (S : Sto) : callF (run prg 4) 4 [.d (jC 1).D] S = .ok (.d (.str "cycle")) S := by
  have q := fault_valid 0 S jC_ok1
  rw [jC_cyc1] at q
  exact q
theorem tail_ok {c : Cal} (ef : ∀ S, callF (run prg 4) 4 [.d c.D] S = .ok (.d .non) S) (v0 v1 v2 v4 v5 v6 v7 v8 v9 v10 v11 v12 : Option W) (S : Sto) :
    fin (exSs (run prg 4) [s_law_16, s_law_17, s_law_18, s_law_19] [v0, v1, v2, some (.d c.D), v4, v5, v6, v7, v8, v9, v10, v11, v12, none, none] S) = .ok (.d (.bl true)) S := by
  have t16 : exS (run prg 4) s_law_16 [v0, v1, v2, some (.d c.D), v4, v5, v6, v7, v8, v9, v10, v11, v12, none, none] S = .ok (.nx, [v0, v1, v2, some (.d c.D), v4, v5, v6, v7, v8, v9, v10, v11, v12, some (.d sC.D), none]) S := by
    simp only [s_law_16, p_asg, p_tup, p_cons, p_bin, p_k, p_nil, p_bok, p_lok, p_ofs, allD, Option.map_some, m24, bindT, List.set_cons_succ, List.set_cons_zero]
    rfl
  have t17 : exS (run prg 4) s_law_17 [v0, v1, v2, some (.d c.D), v4, v5, v6, v7, v8, v9, v10, v11, v12, some (.d sC.D), none] S = .ok (.nx, [v0, v1, v2, some (.d c.D), v4, v5, v6, v7, v8, v9, v10, v11, v12, some (.d sC.D), some (.d (jC 0).D)]) S := by
    simp only [s_law_17, p_asg, p_tup, p_cons, p_bin, p_k, p_nil, p_bok, p_lok, p_ofs, allD, Option.map_some, m8, bindT, List.set_cons_succ, List.set_cons_zero]
    rfl
  have t18 : exS (run prg 4) s_law_18 [v0, v1, v2, some (.d c.D), v4, v5, v6, v7, v8, v9, v10, v11, v12, some (.d sC.D), some (.d (jC 0).D)] S = .ok (.nx, [v0, v1, v2, some (.d c.D), v4, v5, v6, v7, v8, v9, v10, v11, v12, some (.d sC.D), some (.d (jC 0).D)]) S := by
    simp [s_law_18, esm, ej0, Pc.isNon, partW, j1, j2, allD, j3, j4, ej1, cw_nes]
  rw [p_scons, t16]
  simp only [p_bok, nxt_nx]
  rw [p_scons, t17]
  simp only [p_bok, nxt_nx]
  rw [p_scons, t18]
  simp only [p_bok, nxt_nx]
  simp [s_law_19, ef, Pc.isNon]
theorem r13 (hr : row ≠ []) (hl : row.length ≤ 400) {a4 : Int} (ha4 : 0 ≤ a4) {c : Cal} (ef : ∀ S, callF (run prg 4) 4 [.d c.D] S = .ok (.d .non) S) (v0 v2 v4 v5 v6 v7 v8 v9 v10 : Option W) :
    ∃ S', fin (exSs (run prg 4) [s_law_13, s_law_14, s_law_15, s_law_16, s_law_17, s_law_18, s_law_19] [v0, some (.loc 0), v2, some (.d c.D), v4, v5, v6, v7, v8, v9, v10, none, none, none, none] [bx row a4]) = .ok (.d (.bl true)) S' := by
  obtain ⟨u, u0, u12, e13⟩ := nx 3 hr hl ha4 (show (0 : Int) < 12 by decide)
  have e13 : callF (run prg 4) 11 [.loc 0, .d (.int 12)] [bx row a4] = .ok (.d (.int u)) [bx row (a4 + 1)] := e13
  have e13b := mul60 u u0 u12
  obtain ⟨cl, hcl⟩ : ∃ cl : Cal, cl = ⟨List.replicate (13 + u).toNat 60, (13 + u).toNat, 30, [(1000, true), (500, false), (250, true), (125, false), (5, true), (1, false)], 14, 13, 2000⟩ := ⟨_, rfl⟩
  have hlarge : cl.Ok := by
    rw [hcl]
    exact ok_of _ _ _ _ _ _ _ (by simp; omega) (by simp; omega) (fun m hm => by
      rw [(List.mem_replicate.mp hm).2]; decide) (by omega) (by simp) (by decide) (by decide) (by decide) (by decide) (by decide) (by decide) (by decide) (by decide) (by decide) (by decide)
  have hD : D.tup [.tup (List.replicate (13 + u).toNat (.int 60)), .int ((13 + u).toNat : Int), .int 30, .tup [.tup [.int 1000, .bl true], .tup [.int 500, .bl false], .tup [.int 250, .bl true], .tup [.int 125, .bl false], .tup [.int 5, .bl true], .tup [.int 1, .bl false]], .int 14, .int 13, .int 2000] = cl.D := by
    rw [hcl]
    simp [Cal.D, msD, rsD, ruD]
  refine ⟨[bx row (a4 + 1)], ?_⟩
  have t13 : exS (run prg 4) s_law_13 [v0, some (.loc 0), v2, some (.d c.D), v4, v5, v6, v7, v8, v9, v10, none, none, none, none] [bx row a4] = .ok (.nx, [v0, some (.loc 0), v2, some (.d c.D), v4, v5, v6, v7, v8, v9, v10, some (.d (.tup (List.replicate (13 + u).toNat (.int 60)))), none, none, none]) [bx row (a4 + 1)] := by
    simp [s_law_13, allD, e13, e13b, tup_lst, bindT]
  have t14 : exS (run prg 4) s_law_14 [v0, some (.loc 0), v2, some (.d c.D), v4, v5, v6, v7, v8, v9, v10, some (.d (.tup (List.replicate (13 + u).toNat (.int 60)))), none, none, none] [bx row (a4 + 1)] = .ok (.nx, [v0, some (.loc 0), v2, some (.d c.D), v4, v5, v6, v7, v8, v9, v10, some (.d (.tup (List.replicate (13 + u).toNat (.int 60)))), some (.d cl.D), none, none]) [bx row (a4 + 1)] := by
    rw [← hD]
    simp [s_law_14, allD, len_tup, bindT]
  have t15 : exS (run prg 4) s_law_15 [v0, some (.loc 0), v2, some (.d c.D), v4, v5, v6, v7, v8, v9, v10, some (.d (.tup (List.replicate (13 + u).toNat (.int 60)))), some (.d cl.D), none, none] [bx row (a4 + 1)] = .ok (.nx, [v0, some (.loc 0), v2, some (.d c.D), v4, v5, v6, v7, v8, v9, v10, some (.d (.tup (List.replicate (13 + u).toNat (.int 60)))), some (.d cl.D), none, none]) [bx row (a4 + 1)] :=
    judge 0 hlarge [bx row (a4 + 1)] 12 _ rfl
  rw [p_scons, t13]
  simp only [p_bok, nxt_nx]
  rw [p_scons, t14]
  simp only [p_bok, nxt_nx]
  rw [p_scons, t15]
  simp only [p_bok, nxt_nx]
  exact tail_ok ef _ _ _ _ _ _ _ _ _ _ _ _ _
theorem r9 (hr : row ≠ []) (hl : row.length ≤ 400) {a3 : Int} (ha3 : 0 ≤ a3) {c : Cal} (ef : ∀ S, callF (run prg 4) 4 [.d c.D] S = .ok (.d .non) S) (v0 v2 v4 v5 v6 : Option W) :
    ∃ S', fin (exSs (run prg 4) [s_law_9, s_law_10, s_law_11, s_law_12, s_law_13, s_law_14, s_law_15, s_law_16, s_law_17, s_law_18, s_law_19] [v0, some (.loc 0), v2, some (.d c.D), v4, v5, v6, none, none, none, none, none, none, none, none] [bx row a3]) = .ok (.d (.bl true)) S' := by
  obtain ⟨v9, v90, v98, e9⟩ := nx 3 hr hl ha3 (show (0 : Int) < 8 by decide)
  have e9 : callF (run prg 4) 11 [.loc 0, .d (.int 8)] [bx row a3] = .ok (.d (.int v9)) [bx row (a3 + 1)] := e9
  obtain ⟨st, hst1, hst2, e9b⟩ : ∃ st : Int, 1 ≤ st ∧ st ≤ 401 ∧ ixW (.d (.lst [.int 1, .int 2, .int 4, .int 25, .int 100, .int 399, .int 400, .int 401])) (.d (.int v9)) [bx row (a3 + 1)] = .ok (.d (.int st)) [bx row (a3 + 1)] := by
    obtain ⟨y, hy, e⟩ := ix_list (ds := [.int 1, .int 2, .int 4, .int 25, .int 100, .int 399, .int 400, .int 401]) [bx row (a3 + 1)] v90 v98
    simp only [List.mem_cons, List.not_mem_nil, or_false] at hy
    rcases hy with rfl | rfl | rfl | rfl | rfl | rfl | rfl | rfl <;> exact ⟨_, by decide, by decide, e⟩
  obtain ⟨w1, w10, w12, e10a⟩ := nx 3 hr hl (show 0 ≤ a3 + 1 by omega) (show (0 : Int) < 2 by decide)
  have e10a : callF (run prg 4) 11 [.loc 0, .d (.int 2)] [bx row (a3 + 1)] = .ok (.d (.int w1)) [bx row (a3 + 1 + 1)] := e10a
  obtain ⟨w2, w20, w23, e10b⟩ := nx 3 hr hl (show 0 ≤ a3 + 1 + 1 by omega) (show (0 : Int) < 3 by decide)
  have e10b : callF (run prg 4) 11 [.loc 0, .d (.int 3)] [bx row (a3 + 1 + 1)] = .ok (.d (.int w2)) [bx row (a3 + 1 + 1 + 1)] := e10b
  obtain ⟨w3, w30, w34, e10c⟩ := nx 3 hr hl (show 0 ≤ a3 + 1 + 1 + 1 by omega) (show (0 : Int) < 14 by decide)
  have e10c : callF (run prg 4) 11 [.loc 0, .d (.int 14)] [bx row (a3 + 1 + 1 + 1)] = .ok (.d (.int w3)) [bx row (a3 + 1 + 1 + 1 + 1)] := e10c
  obtain ⟨w4, w40, w42, e11⟩ := nx 3 hr hl (show 0 ≤ a3 + 1 + 1 + 1 + 1 by omega) (show (0 : Int) < 2 by decide)
  have e11 : callF (run prg 4) 11 [.loc 0, .d (.int 2)] [bx row (a3 + 1 + 1 + 1 + 1)] = .ok (.d (.int w4)) [bx row (a3 + 1 + 1 + 1 + 1 + 1)] := e11
  obtain ⟨wm, hwm1, hwm2, hwm3, e10s⟩ : ∃ wm : List Int, 1 ≤ wm.length ∧ wm.length ≤ 24 ∧ (∀ m ∈ wm, 1 ≤ m ∧ m ≤ 60) ∧ ∀ S, slW (.d (.tup [.int 50, .int 50])) none (some (1 + w1)) S = .ok (.d (.tup (wm.map .int))) S := by
    have : w1 = 0 ∨ w1 = 1 := by omega
    rcases this with rfl | rfl
    · exact ⟨[50], by decide, by decide, by decide, fun S => rfl⟩
    · exact ⟨[50, 50], by decide, by decide, by decide, fun S => rfl⟩
  obtain ⟨cw, hcw⟩ : ∃ cw : Cal, cw = ⟨wm, 1, w2, [(st, true)], 1 + w3, 0, 5⟩ := ⟨_, rfl⟩
  obtain ⟨cm', hcm⟩ : ∃ cm' : Cal, cm' = ⟨wm, 1, w2, [(st, true), (200 - w4, false)], 10, 0, 5⟩ := ⟨_, rfl⟩
  have hwide : cw.Ok := by
    rw [hcw]
    exact ok_of _ _ _ _ _ _ _ hwm1 hwm2 hwm3 (by decide) (by omega) w20 (by omega) (show 1 ≤ 6 by decide) (fun r hr => by
      rw [List.mem_singleton.mp hr]
      exact ⟨hst1, show st ≤ 1000 by omega⟩) (by omega) (by omega) (by decide) (by omega) (by decide) (by decide)
  have hmore : cm'.Ok := by
    rw [hcm]
    exact ok_of _ _ _ _ _ _ _ hwm1 hwm2 hwm3 (by decide) (by omega) w20 (by omega) (show 2 ≤ 6 by decide) (fun r hr => by
      rcases List.mem_cons.mp hr with z | z
      · rw [z]; exact ⟨hst1, show st ≤ 1000 by omega⟩
      · rw [List.mem_singleton.mp z]; exact ⟨show 1 ≤ 200 - w4 by omega, show 200 - w4 ≤ 1000 by omega⟩) (by decide) (by decide) (by decide) (by decide) (by decide) (by decide)
  have hDw : D.tup [.tup (wm.map .int), .int 1, .int w2, .tup [.tup [.int st, .bl true]], .int (1 + w3), .int 0, .int 5] = cw.D := by
    rw [hcw]; rfl
  have hDm : D.tup [.tup (wm.map .int), .int 1, .int w2, .tup [.tup [.int st, .bl true], .tup [.int (200 - w4), .bl false]], .int 10, .int 0, .int 5] = cm'.D := by
    rw [hcm]; rfl
  have i0 : ∀ S, ixW (.d cw.D) (.d (.int 0)) S = .ok (.d (.tup (wm.map .int))) S := fun S => by rw [hcw]; rfl
  have i2 : ∀ S, ixW (.d cw.D) (.d (.int 2)) S = .ok (.d (.int w2)) S := fun S => by rw [hcw]; rfl
  obtain ⟨a4, v10, ha4, e12⟩ := step12 0 hr hl (show 0 ≤ a3 + 1 + 1 + 1 + 1 + 1 by omega) hwide hmore v0 v2 (some (.d c.D)) v4 v5 v6 (some (.d (.int st))) none none none none
  have e12 : exS (run prg 4) s_law_12 [v0, some (.loc 0), v2, some (.d c.D), v4, v5, v6, some (.d (.int st)), some (.d cw.D), some (.d cm'.D), none, none, none, none, none] [bx row (a3 + 1 + 1 + 1 + 1 + 1)] = .ok (.nx, [v0, some (.loc 0), v2, some (.d c.D), v4, v5, v6, some (.d (.int st)), some (.d cw.D), some (.d cm'.D), v10, none, none, none, none]) [bx row a4] := e12
  have t9 : exS (run prg 4) s_law_9 [v0, some (.loc 0), v2, some (.d c.D), v4, v5, v6, none, none, none, none, none, none, none, none] [bx row a3] = .ok (.nx, [v0, some (.loc 0), v2, some (.d c.D), v4, v5, v6, some (.d (.int st)), none, none, none, none, none, none, none]) [bx row (a3 + 1)] := by
    simp [s_law_9, allD, e9, e9b, bindT]
  have t10 : exS (run prg 4) s_law_10 [v0, some (.loc 0), v2, some (.d c.D), v4, v5, v6, some (.d (.int st)), none, none, none, none, none, none, none] [bx row (a3 + 1)] = .ok (.nx, [v0, some (.loc 0), v2, some (.d c.D), v4, v5, v6, some (.d (.int st)), some (.d cw.D), none, none, none, none, none, none]) [bx row (a3 + 1 + 1 + 1 + 1)] := by
    rw [← hDw]
    simp [s_law_10, allD, e10a, e10b, e10c, partW, e10s, bindT]
  have t11 : exS (run prg 4) s_law_11 [v0, some (.loc 0), v2, some (.d c.D), v4, v5, v6, some (.d (.int st)), some (.d cw.D), none, none, none, none, none, none] [bx row (a3 + 1 + 1 + 1 + 1)] = .ok (.nx, [v0, some (.loc 0), v2, some (.d c.D), v4, v5, v6, some (.d (.int st)), some (.d cw.D), some (.d cm'.D), none, none, none, none, none]) [bx row (a3 + 1 + 1 + 1 + 1 + 1)] := by
    rw [← hDm]
    simp [s_law_11, allD, e11, bindT, i0, i2]
  obtain ⟨S', q⟩ := r13 hr hl ha4 ef v0 v2 v4 v5 v6 (some (.d (.int st))) (some (.d cw.D)) (some (.d cm'.D)) v10
  refine ⟨S', ?_⟩
  rw [p_scons, t9]
  simp only [p_bok, nxt_nx]
  rw [p_scons, t10]
  simp only [p_bok, nxt_nx]
  rw [p_scons, t11]
  simp only [p_bok, nxt_nx]
  rw [p_scons, e12]
  simp only [p_bok, nxt_nx]
  exact q
end
end K01
set_option Elab.async false
set_option linter.all false
set_option maxRecDepth 100000
set_option autoImplicit false
set_option maxHeartbeats 4000000
/-! K01j: the law holds -/
namespace K01
open PySem L2 Pc
section
variable {row : List Int}
theorem eg (S : Sto) : callF (run prg 4) 4 [.d g_GREGORIAN] S = .ok (.d .non) S := by
  have q := fault_valid 0 S gC_ok
  rw [gC_cyc] at q
  exact q
theorem r3 (hr : row ≠ []) (hl : row.length ≤ 400) {a1 : Int} (ha1 : 0 ≤ a1) {c : Cal} (hc : c.Ok) (hcy : isCyc c = false) (v0 : Option W) :
    ∃ S', fin (exSs (run prg 4) [s_law_3, s_law_4, s_law_5, s_law_6, s_law_7, s_law_8, s_law_9, s_law_10, s_law_11, s_law_12, s_law_13, s_law_14, s_law_15, s_law_16, s_law_17, s_law_18, s_law_19] [v0, some (.loc 0), some (.d wordsD), some (.d c.D), none, none, none, none, none, none, none, none, none, none, none] [bx row a1]) = .ok (.d (.bl true)) S' := by
  have ef : ∀ S, callF (run prg 4) 4 [.d c.D] S = .ok (.d .non) S := fun S => by
    have q := fault_valid 0 S hc
    rw [hcy] at q
    exact q
  obtain ⟨vp, p0, p7, ep⟩ := nx 3 hr hl ha1 (show (0 : Int) < 7 by decide)
  obtain ⟨p, rfl, hp⟩ := nat_of p0 p7
  have ep : callF (run prg 4) 11 [.loc 0, .d (.int 7)] [bx row a1] = .ok (.d (.int p)) [bx row (a1 + 1)] := by simpa only [Nat.reduceAdd] using ep
  obtain ⟨sx, a2, hsx, ha2, eone⟩ := spoil1 2 hr hl (show 0 ≤ a1 + 1 by omega) hc p hp
  have eone : callF (run prg 4) 14 [.loc 0, .d c.D, .d (.int p)] [bx row (a1 + 1)] = .ok (.d (.tup ((DL c).set p sx))) [bx row a2] := by simpa only [Nat.reduceAdd] using eone
  have e6 := fault_one 0 [bx row a2] hc p hp hsx
  have e6 : callF (run prg 4) 4 [.d (.tup ((DL c).set p sx))] [bx row a2] = .ok (.d (.str (word p))) [bx row a2] := by simpa only [Nat.reduceAdd] using e6
  obtain ⟨vq, q0, q7, eq⟩ := nx 3 hr hl ha2 (show (0 : Int) < 7 by decide)
  obtain ⟨q, rfl, hq⟩ := nat_of q0 q7
  have eq : callF (run prg 4) 11 [.loc 0, .d (.int 7)] [bx row a2] = .ok (.d (.int q)) [bx row (a2 + 1)] := by simpa only [Nat.reduceAdd] using eq
  obtain ⟨a3, ha3, e8⟩ := step8 0 hr hl (show 0 ≤ a2 + 1 by omega) hc p q hp hq hsx v0 none none none none none none none none
  have e8 : exS (run prg 4) s_law_8 [v0, some (.loc 0), some (.d wordsD), some (.d c.D), some (.d (.int p)), some (.d (.tup ((DL c).set p sx))), some (.d (.int q)), none, none, none, none, none, none, none, none] [bx row (a2 + 1)] = .ok (.nx, [v0, some (.loc 0), some (.d wordsD), some (.d c.D), some (.d (.int p)), some (.d (.tup ((DL c).set p sx))), some (.d (.int q)), none, none, none, none, none, none, none, none]) [bx row a3] := by simpa only [Nat.reduceAdd] using e8
  generalize D.tup ((DL c).set p sx) = one at *
  have ew := words_at p hp
  generalize wordsD = wD at *
  have t3 : exS (run prg 4) s_law_3 [v0, some (.loc 0), some (.d wD), some (.d c.D), none, none, none, none, none, none, none, none, none, none, none] [bx row a1] = .ok (.nx, [v0, some (.loc 0), some (.d wD), some (.d c.D), none, none, none, none, none, none, none, none, none, none, none]) [bx row a1] := by
    simp [s_law_3, ef, eg, Pc.isNon]
  have t4 : exS (run prg 4) s_law_4 [v0, some (.loc 0), some (.d wD), some (.d c.D), none, none, none, none, none, none, none, none, none, none, none] [bx row a1] = .ok (.nx, [v0, some (.loc 0), some (.d wD), some (.d c.D), some (.d (.int p)), none, none, none, none, none, none, none, none, none, none]) [bx row (a1 + 1)] := by
    simp [s_law_4, ep, bindT]
  have t5 : exS (run prg 4) s_law_5 [v0, some (.loc 0), some (.d wD), some (.d c.D), some (.d (.int p)), none, none, none, none, none, none, none, none, none, none] [bx row (a1 + 1)] = .ok (.nx, [v0, some (.loc 0), some (.d wD), some (.d c.D), some (.d (.int p)), some (.d one), none, none, none, none, none, none, none, none, none]) [bx row a2] := by
    simp [s_law_5, eone, bindT]
  have t6 : exS (run prg 4) s_law_6 [v0, some (.loc 0), some (.d wD), some (.d c.D), some (.d (.int p)), some (.d one), none, none, none, none, none, none, none, none, none] [bx row a2] = .ok (.nx, [v0, some (.loc 0), some (.d wD), some (.d c.D), some (.d (.int p)), some (.d one), none, none, none, none, none, none, none, none, none]) [bx row a2] := by
    simp [s_law_6, e6, ew, cw_nes]
  have t7 : exS (run prg 4) s_law_7 [v0, some (.loc 0), some (.d wD), some (.d c.D), some (.d (.int p)), some (.d one), none, none, none, none, none, none, none, none, none] [bx row a2] = .ok (.nx, [v0, some (.loc 0), some (.d wD), some (.d c.D), some (.d (.int p)), some (.d one), some (.d (.int q)), none, none, none, none, none, none, none, none]) [bx row (a2 + 1)] := by
    simp [s_law_7, eq, bindT]
  obtain ⟨S', qq⟩ := r9 hr hl ha3 ef v0 (some (.d wD)) (some (.d (.int p))) (some (.d one)) (some (.d (.int q)))
  refine ⟨S', ?_⟩
  rw [p_scons, t3, p_bok, nxt_nx]
  rw [p_scons, t4, p_bok, nxt_nx]
  rw [p_scons, t5, p_bok, nxt_nx]
  rw [p_scons, t6, p_bok, nxt_nx]
  rw [p_scons, t7, p_bok, nxt_nx]
  rw [p_scons, e8, p_bok, nxt_nx]
  exact qq
theorem law_pure : LawPure prg lvl 16 := by
  intro x ns hlen _ hseq
  obtain ⟨row, hr, hl, ebox⟩ := box_ok (P := prg) (f := 10) (fd := 9) (n := 2) rfl rfl hlen hseq
  have ebox : callN (run prg 4) 10 [.d x] [] = .ok (.loc 0) [bx row 0] := by simpa only [Nat.reduceAdd] using ebox
  obtain ⟨c, a1, hc, hcy, ha1, ecal⟩ := law_calendar_ok 2 hr hl (show (0 : Int) ≤ 0 by decide)
  have ecal : callF (run prg 4) 12 [.loc 0] [bx row 0] = .ok (.d c.D) [bx row a1] := by simpa only [Nat.reduceAdd] using ecal
  obtain ⟨S', q⟩ := r3 hr hl ha1 hc hcy (some (.d x))
  refine ⟨S', ?_⟩
  have t0 : exS (run prg 4) s_law_0 [some (.d x), none, none, none, none, none, none, none, none, none, none, none, none, none, none] [] = .ok (.nx, [some (.d x), some (.loc 0), none, none, none, none, none, none, none, none, none, none, none, none, none]) [bx row 0] := by
    simp [s_law_0, ebox, bindT]
  have t1 : exS (run prg 4) s_law_1 [some (.d x), some (.loc 0), none, none, none, none, none, none, none, none, none, none, none, none, none] [bx row 0] = .ok (.nx, [some (.d x), some (.loc 0), some (.d wordsD), none, none, none, none, none, none, none, none, none, none, none, none]) [bx row 0] := by
    simp [s_law_1, allD, bindT, wordsD]
  have t2 : exS (run prg 4) s_law_2 [some (.d x), some (.loc 0), some (.d wordsD), none, none, none, none, none, none, none, none, none, none, none, none] [bx row 0] = .ok (.nx, [some (.d x), some (.loc 0), some (.d wordsD), some (.d c.D), none, none, none, none, none, none, none, none, none, none, none]) [bx row a1] := by
    simp [s_law_2, ecal, bindT]
  have main : fin (exSs (run prg 4) c_law [some (.d x), none, none, none, none, none, none, none, none, none, none, none, none, none, none] []) = .ok (.d (.bl true)) S' := by
    unfold c_law
    rw [p_scons, t0, p_bok, nxt_nx]
    rw [p_scons, t1, p_bok, nxt_nx]
    rw [p_scons, t2, p_bok, nxt_nx]
    exact q
  have hrun := run_fin (P := prg) (n := 4) (f := 16) (ws := [.d x]) (S := []) (fn := ⟨1, 15, c_law⟩) rfl rfl (by decide)
  have e : run prg lvl 16 [.d x] [] = run prg (4 + 1) 16 [.d x] [] := rfl
  rw [e, hrun]
  exact main
end
end K01
set_option Elab.async false
set_option linter.all false
set_option maxRecDepth 100000
set_option maxHeartbeats 0
namespace K01
open PySem PySem.Spec PyProof.Rows L2 Pc
def top (i : Nat) : Stmt := PySem.Challenge.pw_everydue_k01_faults_of_calendars.main.body.getD i (.Pass ⟨0, 0, 0, 0⟩)
def pl : PD where
  defs := [
    { name := "is_integer", st := top 4, N := ["value", "low", "high"], ps := ["value", "low", "high"], mu := [], rm := false },
    { name := "common_multiple", st := top 5, N := ["one", "two"], ps := ["one", "two"], mu := [], rm := false },
    { name := "fine_months", st := top 6, N := ["months", "days"], ps := ["months"], mu := [], rm := false },
    { name := "fine_rules", st := top 7, N := ["rules", "pair"], ps := ["rules"], mu := [], rm := false },
    { name := "calendar_fault", st := top 8, N := ["calendar", "months", "longer", "extra", "rules", "week", "first", "minutes"], ps := ["calendar"], mu := [], rm := false },
    { name := "is_cycle_long", st := top 9, N := ["calendar", "years", "days", "year"], ps := ["calendar"], mu := [], rm := false },
    { name := "cycle_years", st := top 10, N := ["calendar", "years", "number", "_"], ps := ["calendar"], mu := [], rm := false },
    { name := "is_long", st := top 11, N := ["calendar", "year", "long", "number", "yes"], ps := ["calendar", "year"], mu := [], rm := false },
    { name := "year_length", st := top 12, N := ["calendar", "year"], ps := ["calendar", "year"], mu := [], rm := false },
    { name := "_law_draws", st := top 14, N := ["cell", "modulus", "count", "number", "row", "k", "mixed"], ps := ["cell", "modulus", "count"], mu := ["row"], rm := false },
    { name := "_law_box", st := top 15, N := ["script", "row", "cell"], ps := ["script"], mu := [], rm := false },
    { name := "_law_next", st := top 16, N := ["box", "modulus", "at", "number"], ps := ["box", "modulus"], mu := [], rm := false },
    { name := "_law_calendar", st := top 17, N := ["box", "months", "k", "longer", "rules", "week"], ps := ["box"], mu := [], rm := false },
    { name := "_law_common", st := top 18, N := ["one", "two", "rest"], ps := ["one", "two"], mu := [], rm := false },
    { name := "_law_spoilt", st := top 19, N := ["box", "calendar", "place", "months", "longer", "extra", "rules", "week", "first", "minutes", "wrong"], ps := ["box", "calendar", "place"], mu := [], rm := false },
    { name := "_law_great", st := top 20, N := ["calendar", "years", "pair", "days", "year", "long"], ps := ["calendar"], mu := [], rm := false },
    { name := "law", st := top 21, N := ["script", "box", "words", "calendar", "place", "one", "other", "steps", "wide", "more", "wide_one", "months", "largest", "small", "just"], ps := ["script"], mu := ["box"], rm := false }]
  gl := [("GREGORIAN", g_GREGORIAN), ("MOST_CYCLE", g_MOST_CYCLE)]
  bs := ["all", "bool", "int", "isinstance", "len", "min", "range", "sum", "tuple"]
  gc := true
theorem prg_eq : prgOf pl = some prg := by kernel_rfl
theorem binds : BindAll pl.defs := ⟨fun _ _ _ _ _ _ us hl => match us, hl with | [_, _, _], _ => rfl, ⟨fun _ _ _ _ _ _ us hl => match us, hl with | [_, _], _ => rfl, ⟨fun _ _ _ _ _ _ us hl => match us, hl with | [_], _ => rfl, ⟨fun _ _ _ _ _ _ us hl => match us, hl with | [_], _ => rfl, ⟨fun _ _ _ _ _ _ us hl => match us, hl with | [_], _ => rfl, ⟨fun _ _ _ _ _ _ us hl => match us, hl with | [_], _ => rfl, ⟨fun _ _ _ _ _ _ us hl => match us, hl with | [_], _ => rfl, ⟨fun _ _ _ _ _ _ us hl => match us, hl with | [_, _], _ => rfl, ⟨fun _ _ _ _ _ _ us hl => match us, hl with | [_, _], _ => rfl, ⟨fun _ _ _ _ _ _ us hl => match us, hl with | [_, _, _], _ => rfl, ⟨fun _ _ _ _ _ _ us hl => match us, hl with | [_], _ => rfl, ⟨fun _ _ _ _ _ _ us hl => match us, hl with | [_, _], _ => rfl, ⟨fun _ _ _ _ _ _ us hl => match us, hl with | [_], _ => rfl, ⟨fun _ _ _ _ _ _ us hl => match us, hl with | [_, _], _ => rfl, ⟨fun _ _ _ _ _ _ us hl => match us, hl with | [_, _, _], _ => rfl, ⟨fun _ _ _ _ _ _ us hl => match us, hl with | [_], _ => rfl, ⟨fun _ _ _ _ _ _ us hl => match us, hl with | [_], _ => rfl, trivial⟩⟩⟩⟩⟩⟩⟩⟩⟩⟩⟩⟩⟩⟩⟩⟩⟩
def loose : List Str := (["GREGORIAN", "MOST_CYCLE", "is_integer", "common_multiple", "fine_months", "fine_rules", "calendar_fault", "is_cycle_long", "cycle_years", "is_long", "year_length", "_law_draws", "_law_box", "_law_next", "_law_calendar", "_law_common", "_law_spoilt", "_law_great"] : List Str)
abbrev hk : PySem.W.Hook := He.hookX 5 (faOf pl) (fnOf pl) [] (tfOf pl) (exOf pl)
def ob (s : PySem.W.SharedT) : He.AlX := He.obsX 5 (faOf pl) (fnOf pl) [] (tfOf pl) (exOf pl) (HandSHeadRun.getT s)
theorem ob_eq (s : PySem.W.SharedT) : ob s = hk.obs s.abs := He.obsX_eq (HandSHeadRun.getT_eq s)
theorem head_run (w : World) : HandSHeadRun.RunEqI (PySem.W.OpenLaw.row PySem.Challenge.rw_everydue_k01_faults_of_calendars) (PySem.W.view (PySem.W.OpenLaw.row PySem.Challenge.rw_everydue_k01_faults_of_calendars).prog [0, 21]) hk ob 8000 loose w := by
  unfold HandSHeadRun.RunEqI
  kernel_rfl
end K01
open PySem PySem.W PySem.Calls PyProof.Rows
theorem K01.holds_of (hpure : Pc.LawPure K01.prg K01.lvl 16) : PySem.Challenge.rw_everydue_k01_faults_of_calendars.Holds := by
  w_on; o_law
  refine HandSHeadRun.head_imp (r := PySem.W.OpenLaw.row PySem.Challenge.rw_everydue_k01_faults_of_calendars) (q := PySem.W.view (PySem.W.OpenLaw.row PySem.Challenge.rw_everydue_k01_faults_of_calendars).prog [0, 21]) (H := K01.hk) (ob := K01.ob) (M := 8000) (loose := K01.loose) (d := HandSHeadRun.topDef (PySem.W.OpenLaw.row PySem.Challenge.rw_everydue_k01_faults_of_calendars).prog 21) (kwd := []) K01.ob_eq
    K01.head_run (by kernel_rfl) (by kernel_rfl) (by kernel_rfl) (by rfl) (by first | assumption | decide +kernel) (by decide +kernel) ⟨rfl, rfl, rfl, rfl, rfl, by decide +kernel⟩ ?hw ?hc
  case hw => w_witness2
  case hc => exact Pc.walk_pl (L := K01.lvl) (iL := 16) (x := "script") rfl (by kernel_rfl) ⟨rfl, by decide, by decide⟩ K01.prg_eq rfl rfl (by kernel_rfl) K01.binds hpure
theorem PySem.Challenge.cw_everydue_k01_faults_of_calendars_holds : PySem.Challenge.rw_everydue_k01_faults_of_calendars.Holds := by
  exact K01.holds_of K01.law_pure
