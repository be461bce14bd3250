import PyProof.Rows.All
import Wide.All
import OpenK.AllK
import Wide.FinOn
import PySem.Challenge.RW_goodwebs_k89_rows_and_words
import HandS.ForMost
import HandS.Walk
import HandS.Deep
import HandS.TupAny
import HandS.TupMul
import HandS.TupLe
import HandS.Conv
import HandS.Style
import HandS.Zip
import HandS.SortOrd
import HandS.Strs
import HandS.FStrTup
import KE.GoesMore
import HandS.Small
set_option Elab.async false
set_option linter.all false
set_option maxRecDepth 100000
namespace GW
open PySem

abbrev D := PyData
abbrev Ky := L2.Key

/-- the source of draws -/
structure Src where
  cells : List Int
  left : Int
  mixed : Int
  turn : Int

/-- what a slot holds: frozen data, a list of one's own, a dict of one's own (flat keys; keys that are tuples), the source -/
inductive Ct where
  | v (d : D)
  | l (ds : List D)
  | k (kvs : List (Ky × D))
  | t (kvs : List (List Ky × D))
  | s
abbrev Sl := List (Option Ct)

inductive Op where
  | add | sub | mul | fdiv | mod | neg
  | eq | ne | lt | le | gt | ge | isN | notN | isB (b : Bool) | notB (b : Bool) | inn | nin
  | ix | slLo | slHi | slB | rev
  | len | tuple | list | tupR1 | tupR2 | tupR3 | lstR1 | lstR2 | repr | int | abs | min2 | max2
  | index
  deriving DecidableEq

/-- a cell of the source -/
inductive Fd where
  | left | mixed | turn
  deriving DecidableEq
def Src.get (s : Src) : Fd → Int
  | .left => s.left
  | .mixed => s.mixed
  | .turn => s.turn
def Src.put (s : Src) (k : Fd) (n : Int) : Src := match k with
  | .left => { s with left := n }
  | .mixed => { s with mixed := n }
  | .turn => { s with turn := n }
inductive Mt where
  | append | extend
  deriving DecidableEq

inductive IR where
  | var (i : Nat) | mv (i : Nat) | con (d : D) | glo (g : Nat)
  | tup (as : IR) | lst (as : IR) | newd (t : Bool)
  | op (o : Op) (as : IR) | chain (o o' : Op) (a b c : IR)
  | and (a b : IR) | or (a b : IR) | not (a : IR) | ite (c a b : IR) | tru (a : IR)
  | call (f : Nat) (as : IR)
  | pop0 (i : Nat) | pop (i : Nat) (k : IR) | fld (i : Nat) (k : Fd) | clen (i : Nat) | cpop (i : Nat)
  | comp (own : List Nat) (it tg cnd elt : IR) | disg (as : IR)
  | yes
  | lend (i : Nat)
  | iseq (a : IR) | irng1 (a : IR) | irng2 (a b : IR) | irng3 (a b c : IR) | ienum (a : IR)
  | nil | cons (a r : IR) | star (a r : IR)
  | tname (i : Nat) | ttup (ts : IR) | tsub (i : Nat) (k : IR)
  | asg (tg e : IR) | par (ts es : IR) | setit (i : Nat) (k e : IR)
  | sfld (i : Nat) (k : Fd) (e : IR) | mut (m : Mt) (i : Nat) (a : IR) | aug (o : Op) (i : Nat) (e : IR)
  | for_ (it tg body : IR) | whl (c body : IR) | if_ (c a b : IR)
  | ret (e : IR) | retN | exp (e : IR) | pas | brk | cont

/-- how a block goes on -/
inductive Fl where
  | nx | rt (c : Ct) | bk | ct

/-- an argument of a def: data, a list or dict that is lent, the source -/
inductive Ga where
  | v (d : D) | l (ds : List D) | k (kvs : List (Ky × D)) | t (kvs : List (List Ky × D)) | s

/-- an argument of an operation: data, a slot that is read when all are there -/
inductive Ar where
  | d (x : D) | sl (i : Nat)
/-- .. when all are there -/
inductive Rv where
  | d (x : D) | k (kvs : List (Ky × D)) | t (kvs : List (List Ky × D))

def truD : D → Option Bool
  | .none => some false
  | .bool b => some b
  | .int i => some (i != 0)
  | .list xs => some (!xs.isEmpty)
  | .tuple xs => some (!xs.isEmpty)
  | _ => none
def truC : Ct → Option Bool
  | .v d => truD d
  | .l ds => some (!ds.isEmpty)
  | _ => none
def ok (b : Bool) : Option Unit := if b then some () else none
def within (i : Int) : Bool := decide (-(2 ^ 62) ≤ i) && decide (i < 2 ^ 62)
def mulOk (i j : Int) : Bool := (decide (-(2 ^ 64) < i) && decide (i < 2 ^ 64)) || (decide (-(2 ^ 64) < j) && decide (j < 2 ^ 64))
def fits (n : Nat) : Bool := decide (n ≤ sizeLine)
/-- xs[lo:hi] -/
def cutL {α : Type} (xs : List α) (lo hi : Option Int) : List α := (xs.drop (HT.sIx xs.length 0 lo)).take (HT.sIx xs.length xs.length hi - HT.sIx xs.length 0 lo)
def sliceD (x : D) (lo hi : Option Int) : Option Ct :=
  match x with
  | .list xs => some (.l (cutL xs lo hi))
  | .tuple xs => some (.v (.tuple (cutL xs lo hi)))
  | _ => none
/-- lo, lo + st, .. : n of them -/
def rangeL (lo st : Int) (n : Nat) : List D := (List.range n).map fun k => .int (lo + (k : Nat) * st)
def rng1 (j : Int) : Option (List D) := if within j && fits j.toNat then some (rangeL 0 1 j.toNat) else none
def rng2 (i j : Int) : Option (List D) := if within i && within j && fits (j - i).toNat then some (rangeL i 1 (j - i).toNat) else none
/-- downwards by one -/
def rng3 (i j c : Int) : Option (List D) := if within i && within j && decide (c = -1) && fits (i - j).toNat then some (rangeL i (-1) (i - j).toNat) else none

/-- what a text of data comes to at most -/
def intRoom (i : Int) : Nat := i.natAbs.log2 + 3
mutual
def room : D → Nat
  | .none => 4
  | .bool _ => 5
  | .int i => intRoom i
  | .str x => 10 * x.length + 2
  | .list xs => roomAll xs + 2
  | .tuple xs => roomAll xs + 3
  | .dict _ => 0
def roomAll : List D → Nat
  | [] => 0
  | x :: r => room x + 2 + roomAll r
end
/-- may be written as a text here -/
def canShow (d : D) : Bool := d.showable && !d.hasDict && SeqAt.shaped d && fits (room d)

def flatKey : D → Option Ky
  | .int i => some (.inl i)
  | .str x => some (.inr x)
  | _ => none
def flatKeys : List D → Option (List Ky)
  | [] => some []
  | d :: r => match flatKey d with
    | some k => (flatKeys r).map (k :: ·)
    | none => none
def tupKey : D → Option (List Ky)
  | .tuple ds => flatKeys ds
  | _ => none
def kD : Ky → D
  | .inl i => .int i
  | .inr x => .str x
def tD (ks : List Ky) : D := .tuple (ks.map kD)
def lookK {κ : Type} [DecidableEq κ] (kvs : List (κ × D)) (k : κ) : Option D := (kvs.find? fun kv => decide (kv.1 = k)).map (·.2)
def putKD {κ : Type} [DecidableEq κ] (kvs : List (κ × D)) (k : κ) (v : D) : List (κ × D) :=
  if kvs.any (fun kv => decide (kv.1 = k)) then kvs.map (fun kv => if kv.1 = k then (kv.1, v) else kv) else kvs ++ [(k, v)]

def isIn (x : D) (xs : List D) : Bool := xs.any fun y => PyData.eqv y x
def indexOf (x : D) : List D → Option Nat
  | [] => none
  | y :: r => if PyData.eqv y x then some 0 else (indexOf x r).map (· + 1)
def inSeq (x : D) (y : D) : Option Bool :=
  match y with
  | .list ds => if SeqAt.shaped x && SeqAt.shaped y then some (isIn x ds) else none
  | .tuple ds => if SeqAt.shaped x && SeqAt.shaped y then some (isIn x ds) else none
  | _ => none
def vb (b : Bool) : Option Ct := some (.v (.bool b))
def vi (i : Int) : Option Ct := some (.v (.int i))

def addD : D → D → Option Ct
  | .int i, .int j => vi (i + j)
  | .tuple xs, .tuple ys => if fits (xs.length + ys.length) then some (.v (.tuple (xs ++ ys))) else none
  | .list xs, .list ys => if fits (xs.length + ys.length) then some (.l (xs ++ ys)) else none
  | _, _ => none
def mulD : D → D → Option Ct
  | .int i, .int j => if mulOk i j then vi (i * j) else none
  | .list xs, .int j => if within j && fits (xs.length * j.toNat) then some (.l (List.replicate j.toNat xs).flatten) else none
  | _, _ => none
def lenD : Rv → Option Int
  | .d (.list ds) => some ds.length
  | .d (.tuple ds) => some ds.length
  | .k kvs => some kvs.length
  | _ => none
def ixD : Rv → D → Option Ct
  | .d (.list ds), .int i => (L2.atI ds i).map .v
  | .d (.tuple ds), .int i => (L2.atI ds i).map .v
  | .k kvs, d => (flatKey d).bind fun k => (lookK kvs k).map .v
  | _, _ => none
def innD (x : D) : Rv → Option Bool
  | .d y => inSeq x y
  | .k kvs => (flatKey x).map fun k => (lookK kvs k).isSome
  | .t _ => none
def intD : D → Option Int
  | .int i => some i
  | .bool b => some (if b then 1 else 0)
  | _ => none
def pairsOf : List D → Option (List (Ky × D))
  | [] => some []
  | k :: v :: r => match flatKey k with
    | some x => (pairsOf r).map ((x, v) :: ·)
    | none => none
  | _ => none
def mergeD (kvs : List (Ky × D)) : List (Ky × D) := kvs.foldl (fun acc kv => putKD acc kv.1 kv.2) []
def cmpI (o : Op) (a b : Int) : Bool :=
  match o with
  | .lt => decide (a < b)
  | .le => decide (a ≤ b)
  | .gt => decide (b < a)
  | .ge => decide (b ≤ a)
  | _ => false
def isOrd : Op → Bool
  | .lt => true
  | .le => true
  | .gt => true
  | .ge => true
  | _ => false

def op2 (o : Op) (x y : D) : Option Ct :=
  match o with
  | .add => addD x y
  | .sub => match x, y with | .int i, .int j => vi (i - j) | _, _ => none
  | .mul => mulD x y
  | .fdiv => match x, y with | .int i, .int j => if decide (0 < j) && decide (j < 1073741824) then vi (i / j) else none | _, _ => none
  | .mod => match x, y with | .int i, .int j => if decide (0 < j) then vi (i % j) else none | _, _ => none
  | .eq => if SeqAt.shaped x && SeqAt.shaped y then vb (PyData.eqv x y) else none
  | .ne => if SeqAt.shaped x && SeqAt.shaped y then vb (!PyData.eqv x y) else none
  | .slLo => match y with | .int i => sliceD x (some i) none | _ => none
  | .slHi => match y with | .int i => sliceD x none (some i) | _ => none
  | .tupR2 => match x, y with | .int i, .int j => (rng2 i j).map fun r => .v (.tuple r) | _, _ => none
  | .lstR2 => match x, y with | .int i, .int j => (rng2 i j).map .l | _, _ => none
  | .min2 => match x, y with | .int i, .int j => vi (if j < i then j else i) | _, _ => none
  | .max2 => match x, y with | .int i, .int j => vi (if j > i then j else i) | _, _ => none
  | .index => match x with
    | .list ds => if SeqAt.shaped x && SeqAt.shaped y then (indexOf y ds).map fun j => .v (.int (j : Nat)) else none
    | .tuple ds => if SeqAt.shaped x && SeqAt.shaped y then (indexOf y ds).map fun j => .v (.int (j : Nat)) else none
    | _ => none
  | o => if isOrd o then (match x, y with | .int i, .int j => vb (cmpI o i j) | _, _ => none) else none
def op1 (o : Op) (x : D) : Option Ct :=
  match o with
  | .neg => match x with | .int i => vi (-i) | _ => none
  | .isN => match x with | .none => vb true | _ => vb false
  | .notN => match x with | .none => vb false | _ => vb true
  | .isB b => match x with | .bool c => vb (decide (c = b)) | _ => none
  | .notB b => match x with | .bool c => vb (!decide (c = b)) | _ => none
  | .rev => match x with | .list ds => some (.l ds.reverse) | .tuple ds => some (.v (.tuple ds.reverse)) | _ => none
  | .tuple => match x with | .list ds => some (.v (.tuple ds)) | .tuple ds => some (.v (.tuple ds)) | _ => none
  | .list => match x with | .list ds => some (.l ds) | .tuple ds => some (.l ds) | _ => none
  | .tupR1 => match x with | .int j => (rng1 j).map fun r => .v (.tuple r) | _ => none
  | .lstR1 => match x with | .int j => (rng1 j).map .l | _ => none
  | .repr => if canShow x then some (.v (.str x.shown)) else none
  | .int => (intD x).bind vi
  | .abs => match x with | .int i => vi (if i < 0 then -i else i) | _ => none
  | _ => none
/-- an operation on what its arguments are -/
def opD (o : Op) : List Rv → Option Ct
  | [.d x] => match o with
    | .len => (lenD (.d x)).bind vi
    | o => op1 o x
  | [.k kvs] => match o with
    | .len => vi kvs.length
    | _ => none
  | [r, .d y] => match o with
    | .ix => ixD r y
    | o => match r with
      | .d x => match o with
        | .inn => (innD x (.d y)).bind vb
        | .nin => (innD x (.d y)).bind fun b => vb (!b)
        | o => op2 o x y
      | _ => none
  | [.d x, r] => match o with
    | .inn => (innD x r).bind vb
    | .nin => (innD x r).bind fun b => vb (!b)
    | _ => none
  | [.d x, .d y, .d z] => match o with
    | .slB => match y, z with | .int i, .int j => sliceD x (some i) (some j) | _, _ => none
    | .tupR3 => match x, y, z with | .int i, .int j, .int c => (rng3 i j c).map fun r => .v (.tuple r) | _, _, _ => none
    | _ => none
  | _ => none

/-- {k: v, ..}.get(k, d), the items in a row -/
def disgD (ds : List D) : Option Ct :=
  match ds.reverse with
  | z :: y :: r => match pairsOf r.reverse, flatKey y with
    | some kvs, some k => if decide (kvs.length ≤ 15) && !kvs.isEmpty then some (.v ((lookK (mergeD kvs) k).getD z)) else none
    | _, _ => none
  | _ => none

def frz : Ct → Option D
  | .v d => some d
  | .l ds => some (.list ds)
  | _ => none
def itemsD : D → Option (List D)
  | .list xs => some xs
  | .tuple xs => some xs
  | _ => none
def toGa : Ct → Option Ga
  | .v d => some (.v d)
  | .l ds => some (.v (.list ds))
  | .s => some .s
  | _ => none
def lendC : Ct → Option Ga
  | .l ds => some (.l ds)
  | .k kvs => some (.k kvs)
  | .t kvs => some (.t kvs)
  | _ => none
def rvC : Ct → Option Rv
  | .v d => some (.d d)
  | .l ds => some (.d (.list ds))
  | .k kvs => some (.k kvs)
  | .t kvs => some (.t kvs)
  | .s => none
def at_ (σ : Sl) (i : Nat) : Option Ct := (σ[i]?).join
def res1 (σ : Sl) : Ar → Option Rv
  | .d x => some (.d x)
  | .sl i => (at_ σ i).bind rvC
def resolve (σ : Sl) : List Ar → Option (List Rv)
  | [] => some []
  | a :: r => (res1 σ a).bind fun x => (resolve σ r).map (x :: ·)
/-- a list or dict of one's own -/
def isOwn : Ct → Bool
  | .l _ => true
  | .k _ => true
  | .t _ => true
  | _ => false
def wipeS (σ : Sl) : List Nat → Sl
  | [] => σ
  | v :: vs => (wipeS σ vs).set v none
def backS (σ σ0 : Sl) : List Nat → Sl
  | [] => σ
  | v :: vs => (backS σ σ0 vs).set v (at_ σ0 v)
def free (σ : Sl) (i : Nat) : Bool := match at_ σ i with
  | some c => !isOwn c
  | none => true
mutual
def bindT (tg : IR) (lk : List Nat) (d : D) (σ : Sl) : Option Sl :=
  match tg with
  | .tname i => if lk.contains i || decide (σ.length ≤ i) then none else some (σ.set i (some (.v d)))
  | .ttup ts => match d with
    | .tuple ds => bindTs ts lk ds σ
    | _ => none
  | _ => none
def bindTs (ts : IR) (lk : List Nat) (ds : List D) (σ : Sl) : Option Sl :=
  match ts with
  | .nil => match ds with
    | [] => some σ
    | _ => none
  | .cons t r => match ds with
    | d :: ds' => (bindT t lk d σ).bind fun σ' => bindTs r lk ds' σ'
    | [] => none
  | _ => none
end
/-- the slots of a target -/
def slotsT : IR → List Nat
  | .tname i => [i]
  | .ttup ts => slotsT ts
  | .cons t r => slotsT t ++ slotsT r
  | _ => []
/-- a list comprehension's turns -/
def turns (own : List Nat) (bind : D → Sl → Option Sl) (cnd : Sl → Src → Option (Bool × Sl × Src)) (elt : Sl → Src → Option (Ct × Sl × Src)) :
    List D → Sl → Src → List D → Option (List D × Sl × Src)
  | [], σ, s, acc => some (acc, σ, s)
  | d :: r, σ, s, acc => (bind d σ).bind fun σ1 => (cnd σ1 s).bind fun b => match b with
    | (false, σ2, s2) => turns own bind cnd elt r (wipeS σ2 own) s2 acc
    | (true, σ2, s2) => (elt σ2 s2).bind fun c => match c with
      | (c, σ3, s3) => (frz c).bind fun x => if decide (acc.length < sizeLine) then turns own bind cnd elt r (wipeS σ3 own) s3 (acc ++ [x]) else none
/-- a for's turns -/
def walk (bind : D → Sl → Option Sl) (body : Sl → Src → Option (Fl × Sl × Src)) : List D → Sl → Src → Option (Fl × Sl × Src)
  | [], σ, s => some (.nx, σ, s)
  | d :: r, σ, s => (bind d σ).bind fun σ1 => (body σ1 s).bind fun f => match f with
    | (.nx, σ2, s2) => walk bind body r σ2 s2
    | (.ct, σ2, s2) => walk bind body r σ2 s2
    | (.bk, σ2, s2) => some (.nx, σ2, s2)
    | (.rt c, σ2, s2) => some (.rt c, σ2, s2)
/-- a while's turns -/
def again (cnd : Sl → Src → Option (Bool × Sl × Src)) (body : Sl → Src → Option (Fl × Sl × Src)) : Nat → Sl → Src → Option (Fl × Sl × Src)
  | 0, _, _ => none
  | n + 1, σ, s => (cnd σ s).bind fun b => match b with
    | (false, σ1, s1) => some (.nx, σ1, s1)
    | (true, σ1, s1) => (body σ1 s1).bind fun f => match f with
      | (.nx, σ2, s2) => again cnd body n σ2 s2
      | (.ct, σ2, s2) => again cnd body n σ2 s2
      | (.bk, σ2, s2) => some (.nx, σ2, s2)
      | (.rt c, σ2, s2) => some (.rt c, σ2, s2)
def turnsMost : Nat := 1000000
/-- x[k] = d at a slot -/
def setAt (lk : List Nat) (i : Nat) (k d : D) (σ : Sl) : Option Sl :=
  if lk.contains i then none else match at_ σ i with
  | some (.l ds) => match k with
    | .int n => (L2.ixN ds.length n).map fun j => σ.set i (some (.l (ds.set j d)))
    | _ => none
  | some (.k kvs) => (flatKey k).bind fun x => if decide (kvs.length < sizeLine) then some (σ.set i (some (.k (putKD kvs x d)))) else none
  | _ => none
def mutAt (m : Mt) (lk : List Nat) (i : Nat) (d : D) (σ : Sl) : Option Sl :=
  if lk.contains i then none else match at_ σ i with
  | some (.l ds) => match m with
    | .append => if decide (ds.length < sizeLine) then some (σ.set i (some (.l (ds ++ [d])))) else none
    | .extend => (itemsD d).bind fun xs => if fits (ds.length + xs.length) then some (σ.set i (some (.l (ds ++ xs)))) else none
  | _ => none

section
variable (gl : Nat → Option D) (calls : Nat → List Ga → Src → Option (Ct × Src))
mutual
def evE (e : IR) (lk : List Nat) (σ : Sl) (s : Src) : Option (Ct × Sl × Src) :=
  match e with
  | .var i => match at_ σ i with
    | some (.v d) => some (.v d, σ, s)
    | some (.l ds) => if lk.contains i then none else some (.v (.list ds), σ.set i (some (.v (.list ds))), s)
    | some .s => some (.s, σ, s)
    | _ => none
  | .mv i => match at_ σ i with
    | some (.v d) => some (.v d, σ, s)
    | some .s => none
    | some c => if lk.contains i then none else some (c, σ.set i none, s)
    | none => none
  | .con d => some (.v d, σ, s)
  | .glo g => (gl g).map fun d => (.v d, σ, s)
  | .tup as => (evDs as lk σ s).bind fun (ds, σ1, s1) => if fits ds.length then some (.v (.tuple ds), σ1, s1) else none
  | .lst as => (evDs as lk σ s).bind fun (ds, σ1, s1) => if fits ds.length then some (.l ds, σ1, s1) else none
  | .newd t => if t then none else some (.k [], σ, s)
  | .op o as => (evAs as lk σ s).bind fun (rs, σ1, s1) => (resolve σ1 rs).bind fun xs => (opD o xs).map fun c => (c, σ1, s1)
  | .disg as => (evDs as lk σ s).bind fun (ds, σ1, s1) => (disgD ds).map fun c => (c, σ1, s1)
  | .chain o o' a b c => (evE a lk σ s).bind fun (x, σ1, s1) => (evE b lk σ1 s1).bind fun (y, σ2, s2) => match x, y with
    | .v (.int i), .v (.int j) => if isOrd o && isOrd o' then (if cmpI o i j then (evE c lk σ2 s2).bind fun (z, σ3, s3) => match z with
        | .v (.int k) => some (.v (.bool (cmpI o' j k)), σ3, s3)
        | _ => none
      else some (.v (.bool false), σ2, s2)) else none
    | _, _ => none
  | .and a b => (evE a lk σ s).bind fun (c, σ1, s1) => match c with
    | .v (.bool true) => evE b lk σ1 s1
    | .v (.bool false) => some (.v (.bool false), σ1, s1)
    | _ => none
  | .or a b => (evE a lk σ s).bind fun (c, σ1, s1) => match c with
    | .v (.bool false) => evE b lk σ1 s1
    | .v (.bool true) => some (.v (.bool true), σ1, s1)
    | _ => none
  | .not a => (evE a lk σ s).bind fun (c, σ1, s1) => match c with
    | .v (.bool b) => some (.v (.bool (!b)), σ1, s1)
    | _ => none
  | .ite c a b => (evT c lk σ s).bind fun (t, σ1, s1) => if t then evE a lk σ1 s1 else evE b lk σ1 s1
  | .call f as => (evG as lk σ s).bind fun (gs, σ1, s1) => (calls f gs s1).map fun (c, s2) => (c, σ1, s2)
  | .pop0 i => if lk.contains i then none else match at_ σ i with
    | some (.l ds) => (ds[ds.length - 1]?).map fun d => (.v d, σ.set i (some (.l ds.dropLast)), s)
    | _ => none
  | .pop i k => match at_ σ i with
    | some (.l _) => (evE k lk σ s).bind fun (c, σ1, s1) => match c with
      | .v (.int n) => if lk.contains i then none else match at_ σ1 i with
        | some (.l ds) => if within n then (seqIndex? n ds.length).bind fun j => (ds[j]?).map fun d => (.v d, σ1.set i (some (.l (ds.eraseIdx j))), s1) else none
        | _ => none
      | _ => none
    | _ => none
  | .fld i k => match at_ σ i with
    | some .s => some (.v (.int (s.get k)), σ, s)
    | _ => none
  | .clen i => match at_ σ i with
    | some .s => some (.v (.int s.cells.length), σ, s)
    | _ => none
  | .cpop i => match at_ σ i with
    | some .s => (s.cells[s.cells.length - 1]?).map fun c => (.v (.int c), σ, { s with cells := s.cells.dropLast })
    | _ => none
  | .comp own it tg cnd elt => (evI it lk σ s).bind fun (ds, lks, σ1, s1) =>
    if own.all (free σ1) && (slotsT tg).all own.contains then
      (turns own (bindT tg (lks ++ lk)) (evT cnd (lks ++ lk)) (evE elt (lks ++ lk)) ds (wipeS σ1 own) s1 []).map fun (out, σ2, s2) => (.l out, backS σ2 σ1 own, s2)
    else none
  | _ => none
/-- as a test -/
def evT (e : IR) (lk : List Nat) (σ : Sl) (s : Src) : Option (Bool × Sl × Src) :=
  match e with
  | .yes => some (true, σ, s)
  | .and a b => (evT a lk σ s).bind fun (c, σ1, s1) => if c then evT b lk σ1 s1 else some (false, σ1, s1)
  | .or a b => (evT a lk σ s).bind fun (c, σ1, s1) => if c then some (true, σ1, s1) else evT b lk σ1 s1
  | .not a => (evT a lk σ s).bind fun (c, σ1, s1) => some (!c, σ1, s1)
  | .tru a => (evE a lk σ s).bind fun (c, σ1, s1) => match c with
    | .v (.bool b) => some (b, σ1, s1)
    | _ => none
  | _ => none
/-- a row of data -/
def evDs (e : IR) (lk : List Nat) (σ : Sl) (s : Src) : Option (List D × Sl × Src) :=
  match e with
  | .nil => some ([], σ, s)
  | .cons a r => (evE a lk σ s).bind fun (c, σ1, s1) => (frz c).bind fun d => (evDs r lk σ1 s1).map fun (ds, σ2, s2) => (d :: ds, σ2, s2)
  | .star a r => (evE a lk σ s).bind fun (c, σ1, s1) => (frz c).bind fun d => (itemsD d).bind fun xs => (evDs r lk σ1 s1).map fun (ds, σ2, s2) => (xs ++ ds, σ2, s2)
  | _ => none
/-- a row of arguments of an operation -/
def evAs (e : IR) (lk : List Nat) (σ : Sl) (s : Src) : Option (List Ar × Sl × Src) :=
  match e with
  | .nil => some ([], σ, s)
  | .cons (.lend i) r => (at_ σ i).bind fun _ => (evAs r lk σ s).map fun (as, σ1, s1) => (.sl i :: as, σ1, s1)
  | .cons a r => (evE a lk σ s).bind fun (c, σ1, s1) => (frz c).bind fun d => (evAs r lk σ1 s1).map fun (as, σ2, s2) => (.d d :: as, σ2, s2)
  | _ => none
/-- a row of arguments of a def -/
def evG (e : IR) (lk : List Nat) (σ : Sl) (s : Src) : Option (List Ga × Sl × Src) :=
  match e with
  | .nil => some ([], σ, s)
  | .cons (.lend i) r => ((at_ σ i).bind lendC).bind fun g => (evG r (i :: lk) σ s).map fun (gs, σ1, s1) => (g :: gs, σ1, s1)
  | .cons a r => (evE a lk σ s).bind fun (c, σ1, s1) => (toGa c).bind fun g => (evG r lk σ1 s1).map fun (gs, σ2, s2) => (g :: gs, σ2, s2)
  | _ => none
/-- a row of values, each of one's own where it is new -/
def evCs (e : IR) (lk : List Nat) (σ : Sl) (s : Src) : Option (List Ct × Sl × Src) :=
  match e with
  | .nil => some ([], σ, s)
  | .cons a r => (evE a lk σ s).bind fun (c, σ1, s1) => (evCs r lk σ1 s1).map fun (cs, σ2, s2) => (c :: cs, σ2, s2)
  | _ => none
/-- what is walked, the slot that is locked meanwhile -/
def evI (e : IR) (lk : List Nat) (σ : Sl) (s : Src) : Option (List D × List Nat × Sl × Src) :=
  match e with
  | .iseq (.lend i) => match at_ σ i with
    | some (.l ds) => some (ds, [i], σ, s)
    | _ => none
  | .iseq a => (evE a lk σ s).bind fun (c, σ1, s1) => (frz c).bind fun d => (itemsD d).map fun ds => (ds, [], σ1, s1)
  | .irng1 a => (evE a lk σ s).bind fun (c, σ1, s1) => match c with
    | .v (.int j) => (rng1 j).map fun ds => (ds, [], σ1, s1)
    | _ => none
  | .irng2 a b => (evE a lk σ s).bind fun (c, σ1, s1) => (evE b lk σ1 s1).bind fun (c', σ2, s2) => match c, c' with
    | .v (.int i), .v (.int j) => (rng2 i j).map fun ds => (ds, [], σ2, s2)
    | _, _ => none
  | .irng3 a b g => (evE a lk σ s).bind fun (c, σ1, s1) => (evE b lk σ1 s1).bind fun (c', σ2, s2) => (evE g lk σ2 s2).bind fun (c'', σ3, s3) => match c, c', c'' with
    | .v (.int i), .v (.int j), .v (.int k) => (rng3 i j k).map fun ds => (ds, [], σ3, s3)
    | _, _, _ => none
  | .ienum a => (evE a lk σ s).bind fun (c, σ1, s1) => (frz c).bind fun d => (itemsD d).map fun ds => (ds.zipIdx.map fun p => .tuple [.int (p.2 : Nat), p.1], [], σ1, s1)
  | _ => none
/-- one value to one target -/
def putT (tg : IR) (lk : List Nat) (c : Ct) (σ : Sl) (s : Src) : Option (Sl × Src) :=
  match tg with
  | .tname i => if lk.contains i || decide (σ.length ≤ i) then none else match c with
    | .s => none
    | c => some (σ.set i (some c), s)
  | .ttup ts => match c with
    | .v d => (bindT (.ttup ts) lk d σ).map fun σ1 => (σ1, s)
    | _ => none
  | .tsub i k => (frz c).bind fun d => (at_ σ i).bind fun _ => (evE k lk σ s).bind fun (x, σ1, s1) => (frz x).bind fun y => (setAt lk i y d σ1).map fun σ2 => (σ2, s1)
  | _ => none
def putTs (ts : IR) (lk : List Nat) (cs : List Ct) (σ : Sl) (s : Src) : Option (Sl × Src) :=
  match ts with
  | .nil => match cs with
    | [] => some (σ, s)
    | _ => none
  | .cons t r => match cs with
    | c :: cs' => (putT t lk c σ s).bind fun (σ1, s1) => putTs r lk cs' σ1 s1
    | [] => none
  | _ => none
/-- a statement -/
def evS (e : IR) (lk : List Nat) (σ : Sl) (s : Src) : Option (Fl × Sl × Src) :=
  match e with
  | .asg tg a => (evE a lk σ s).bind fun (c, σ1, s1) => (putT tg lk c σ1 s1).map fun (σ2, s2) => (.nx, σ2, s2)
  | .par ts as => (evCs as lk σ s).bind fun (cs, σ1, s1) => (putTs ts lk cs σ1 s1).map fun (σ2, s2) => (.nx, σ2, s2)
  | .setit i k a => (evE a lk σ s).bind fun (c, σ1, s1) => (frz c).bind fun d => (at_ σ1 i).bind fun _ => (evE k lk σ1 s1).bind fun (x, σ2, s2) => (frz x).bind fun y => (setAt lk i y d σ2).map fun σ3 => (.nx, σ3, s2)
  | .sfld i k a => (evE a lk σ s).bind fun (c, σ1, s1) => match c, at_ σ1 i with
    | .v (.int n), some .s => some (.nx, σ1, s1.put k n)
    | _, _ => none
  | .mut m i a => match at_ σ i with
    | some (.l _) => (evE a lk σ s).bind fun (c, σ1, s1) => (frz c).bind fun d => (mutAt m lk i d σ1).map fun σ2 => (.nx, σ2, s1)
    | _ => none
  | .aug o i a => if lk.contains i then none else match at_ σ i with
    | some (.v (.int n)) => (evE a lk σ s).bind fun (c, σ1, s1) => match c with
      | .v (.int k) => match o with
        | .add => some (.nx, σ1.set i (some (.v (.int (n + k)))), s1)
        | .mul => if mulOk n k then some (.nx, σ1.set i (some (.v (.int (n * k)))), s1) else none
        | _ => none
      | _ => none
    | _ => none
  | .for_ it tg body => (evI it lk σ s).bind fun (ds, lks, σ1, s1) => walk (bindT tg (lks ++ lk)) (evSs body (lks ++ lk)) ds σ1 s1
  | .whl c body => again (evT c lk) (evSs body lk) turnsMost σ s
  | .if_ c a b => (evT c lk σ s).bind fun (t, σ1, s1) => if t then evSs a lk σ1 s1 else evSs b lk σ1 s1
  | .ret a => (evE a lk σ s).bind fun (c, σ1, s1) => match c with
    | .s => none
    | c => some (.rt c, σ1, s1)
  | .retN => some (.rt (.v .none), σ, s)
  | .exp a => (evE a lk σ s).bind fun (c, σ1, s1) => some (.nx, σ1, s1)
  | .pas => some (.nx, σ, s)
  | .brk => some (.bk, σ, s)
  | .cont => some (.ct, σ, s)
  | _ => none
/-- a block -/
def evSs (e : IR) (lk : List Nat) (σ : Sl) (s : Src) : Option (Fl × Sl × Src) :=
  match e with
  | .nil => some (.nx, σ, s)
  | .cons a r => (evS a lk σ s).bind fun (f, σ1, s1) => match f with
    | .nx => evSs r lk σ1 s1
    | f => some (f, σ1, s1)
  | _ => none
end
end

/-- a def: how many parameters, how many slots, its block -/
structure Fn where
  np : Nat
  ns : Nat
  body : IR
def slotG : Ga → Option Ct
  | .v d => some (.v d)
  | .l ds => some (.l ds)
  | .k kvs => some (.k kvs)
  | .t kvs => some (.t kvs)
  | .s => some .s
def lent : Ga → Bool
  | .l _ => true
  | .k _ => true
  | .t _ => true
  | _ => false
def lentIx : List Ga → Nat → List Nat
  | [], _ => []
  | g :: r, n => if lent g then n :: lentIx r (n + 1) else lentIx r (n + 1)
def startS (n : Nat) (gs : List Ga) : Sl := gs.map slotG ++ List.replicate (n - gs.length) none
/-- what a def hands back -/
def outC : Option (Fl × Sl × Src) → Option (Ct × Src)
  | some (.rt .s, _, _) => none
  | some (.rt c, _, s) => some (c, s)
  | some (.nx, _, s) => some (.v .none, s)
  | _ => none
/-- the defs, to a depth of calls; pick: the draws -/
def callF (gl : Nat → Option D) (pick : Src → Int → Option (Int × Src)) (fs : Nat → Option Fn) : Nat → Nat → List Ga → Src → Option (Ct × Src)
  | 0, _, _, _ => none
  | n + 1, f, gs, s => match f with
    | 0 => match gs with
      | [.s, .v (.int m)] => (pick s m).map fun (r, s1) => (.v (.int r), s1)
      | _ => none
    | f => (fs f).bind fun d => if d.np = gs.length && decide (gs.length ≤ d.ns) then outC (evSs gl (callF gl pick fs n) d.body (lentIx gs 0) (startS d.ns gs) s) else none
end GW

namespace GW
open PySem PySem.Spec PyProof.Rows L2

/-- as FnOk, for calls around which nothing is being written as a text; nothing is raised -/
structure FnG (P : Program) (w : World) (K : PySem.W.Frag) (mg : Str → Option Value) (base : Heap) (k : Nat) (f : Addr) (fd : FuncData) (ps : List Str) (sp : Sp) : Prop where
  len : ∀ vs H Q E, sp vs H Q E → vs.length = ps.length
  run : ∀ (A : Around) (outer : List Env) (s : Shared) (H : Hp) (args : Args) (us : List Value) (vs : List V) (Q : VK) (E : XK),
    A.guards = some [] → Room k A → Env0 P w K mg base A outer s H → BindsTo s fd args (ps.zip us) → Vals vs us → sp vs H Q E →
      codeAny (model P w) A (.call (.ref f) args) (CR CX0 outer P w H s Q E) s
theorem FnG.of {P : Program} {w : World} {K : PySem.W.Frag} {mg : Str → Option Value} {base : Heap} {k : Nat} {f : Addr} {fd : FuncData} {ps : List Str} {sp : Sp}
    (F : FnOk P w K mg base CX0 k f fd ps sp) : FnG P w K mg base k f fd ps sp :=
  ⟨F.len, fun A outer s H args us vs Q E _ hr e0 hb r h => F.run A outer s H args us vs Q E hr e0 hb r h⟩
theorem FnG.mono {P : Program} {w : World} {K : PySem.W.Frag} {mg : Str → Option Value} {base : Heap} {j k : Nat} {f : Addr} {fd : FuncData} {ps : List Str} {sp : Sp}
    (F : FnG P w K mg base j f fd ps sp) (h : j ≤ k) : FnG P w K mg base k f fd ps sp :=
  ⟨F.len, fun A outer s H args us vs Q E hg hr => F.run A outer s H args us vs Q E hg (hr.mono h)⟩

section
variable {X : Cx} {k : Nat} {f : Addr} {fd : FuncData} {ps : List Str} {sp : Sp} {x : Str} {p pos : Pos} {e : Expr} {es : List Expr} {t : TA}
/-- a call of such a def -/
theorem pe_callG (F : FnG X.prog X.w X.K X.mg X.base k f fd ps sp) (hgu : X.A.guards = some []) (hr : Room k X.A) (hg : Gl X x) (hm : X.mg x = some (.ref f))
    (hk : PySem.W.keepIn X.K (.ref f) = true) (hb : Binds X.K fd ps []) (ha : PA X (e :: es) t) (hdb : (x == ("__debug__" : Str)) = false)
    (he : starEach (e :: es) X.env = (false, eval e X.env) :: starEach es X.env) (hpl : (backTo pos (starEach es X.env)).any (·.1) = false) :
    PE X (.Call (.Name x p) (e :: es) [] pos) (fun σ H Q => t σ H fun vs H1 => sp vs H1 Q E0) := by
  constructor
  intro pins s σ H Q I h
  apply wpAny_Call_Name_kw
  apply ld_glob I hg hm _ hdb
  refine PySem.W.callWith_K (h₀ := X.base) I.ok.mod.kin hk ?_ he hpl
  refine thn (ha.run pos pins s σ H _ I h) ?_
  rintro us s1 ⟨vs, H1, I1, r, q⟩
  refine ⟨I1.kIn, ?_⟩
  have hl : us.length = ps.length := r.length.symm.trans (F.len _ _ _ _ q)
  have b := hb s1 us I1.kIn (by simpa using hl)
  rw [List.append_nil] at b
  apply wpAny_call
  apply codeAny_mono (F.run X.A X.stack s1 H1 ⟨us, []⟩ us vs Q E0 hgu hr I1.env0 b r q)
  intro r' s' hq
  match r', hq with
  | .ok (.ret u), hq => exact I1.after hq
  | .ok .next, hq => exact hq.elim
  | .ok .brk, hq => exact hq.elim
  | .ok .cont, hq => exact hq.elim
  | .error _, hq => exact hq.elim
end

/-- a def of the text keeps a promise, by its block -/
theorem fnG_mk {P : Program} {w : World} {K : PySem.W.Frag} {mg : Str → Option Value} {base : Heap} {x qual : Str} {st : Stmt} {f : Addr} {fd : FuncData} {N ps : List Str} {k : Nat} {sp : Sp}
    (F : Fun K x qual st f fd) (S : FnScope N ps (defScope st)) (len : ∀ vs H Q E, sp vs H Q E → vs.length = ps.length)
    (hbody : ∀ (cdv : Value) (A : Around) (outer : List Env) (s : Shared) (H : Hp) (vs : List V) (Q : VK) (E : XK), A.guards = some [] →
      Room k (A.deeper (envOfC qual (defScope st) s.heap.objs.size f cdv)) → sp vs H Q E →
      ∃ t, PSs (cxOf CX0 P w K mg base N qual (defScope st) f cdv A outer s H E).nox (defBody st) t ∧ t { nx := fun _ H' => Q .non H', rt := Q } (start N vs) H) :
    FnG P w K mg base (k + 1) f fd ps sp := by
  obtain ⟨oc, od, kV, doc, pm, an, cdv, ct, osl, rfl, lk, hcd⟩ := F.ex
  refine ⟨len, ?_⟩
  intro A outer s H args us vs Q E hgu hr e0 hb r hsp
  have hl := len _ _ _ _ hsp
  have KX : K.In s.heap := e0.mod.kin.keeps fun b o e => (e0.bs b o e).1
  have lim : s.heap.NoLimit := e0.mod.nolimit.keeps fun b o e => (e0.bs b o e).1
  have hkind : ∀ y ∈ ps.zip us, (defScope st).names.lookup y.1 = some .local ∨
      ((defScope st).names.lookup y.1 = some .cell ∧ ((cellsFrom (s.heap.objs.size + 1) (defScope st).names []).lookup y.1).isSome = true) := by
    rintro ⟨n, v⟩ hy
    cases S.par n (List.of_mem_zip hy).1 with
    | inl q => exact Or.inl q
    | inr q => exact Or.inr ⟨q, PySem.W.cellsFrom_some _ _ _ (Or.inl q)⟩
  apply codeAny_call_function hr.depth (KX _ _ lk) rfl S.co S.gen rfl (PySem.W.codeRec_of KX hcd)
  apply hb
  apply wpAny_newFunctionEnv_cells S.kind hkind
  intro env he s1 xx
  subst he
  refine ⟨lim.keeps xx.toInCall.keep, ?_⟩
  apply codeAny_func
  obtain ⟨t, ht, hq⟩ := hbody cdv A outer s H vs Q E hgu (hr.deeper _) hsp
  have I : Inv (cxOf CX0 P w K mg base N qual (defScope st) f cdv A outer s H E) [] (start N vs) H s1 := inv_start S hr.hd e0 hl r xx
  have fin : ∀ {σ' : L2.St} {H' : Hp} {v : V} {u : Value} {s' : Shared}, Inv (cxOf CX0 P w K mg base N qual (defScope st) f cdv A outer s H E) [] σ' H' s' → RelV v u → Q v H' →
      CE outer P w H s Q u s' := by
    intro σ' H' v u s' J rv q
    exact ⟨v, H', J.os, J.bare, J.base, J.hok, rv, q⟩
  apply wpAny_mono (ht.nox.run [] s1 (start N vs) H _ I hq)
  · intro fl s' hs
    match fl, hs with
    | .ret u, ⟨v, σ', H', J, rv, q⟩ => exact fin J rv q
    | .next, ⟨σ', H', J, q⟩ => exact fin (v := V.non) (u := Value.none) J rfl q
    | .brk, ⟨_, _, _, q⟩ => exact q.elim
    | .cont, ⟨_, _, _, q⟩ => exact q.elim
  · intro e s' hs
    exact hs

/-- the law's own call -/
theorem lawG {P : Program} {w : World} {K : PySem.W.Frag} {mg mb : Str → Option Value} {k : Nat} {fa a : Addr} {fd : FuncData} {x : Str} {sp : Sp} {s₁ : Shared} {vs : List Value} {ns : List Int}
    (KX : K.In s₁.heap) (hns : s₁.heap.Ns mainGlobals mg) (hb : s₁.heap.Ns builtinsNs mb) (hbb : ∀ x : Str, x ≠ "__name__" → mb x = bootBuiltins x) (hlim : s₁.heap.NoLimit) (hg : s₁.gens = #[])
    (ha : s₁.heap.get? a = some { cls := .type "list", data := .seq vs.toArray }) (hi : IntsAre vs ns) (hl : ns.length ≤ sizeLine) (hr : Room k callerA)
    (F : ∀ base : Heap, K.In base → base.Ns mainGlobals mg → FnG P w K mg base k fa fd [x] sp) (hbind : ∀ (s : Shared) (u : Value), BindsTo s fd ⟨[u], []⟩ [(x, u)])
    (hsp : ∀ H : Hp, Only H → SqL K H a (ns.map V.int) → sp [.ref a] H (fun v _ => v = .bl true) E0) :
    codeAny (model P w) callerA (.call (.ref fa) ⟨[.ref a], []⟩) (fun r s' => r = .ok (.ret (.bool true)) ∧ OldK s₁.heap s'.heap ∧ s'.os = s₁.os ∧ AllBare s'.gens) s₁ := by
  let Q0 : Result → Shared → Prop := fun r s' => r = .ok (.ret (.bool true)) ∧ OldK s₁.heap s'.heap ∧ s'.os = s₁.os ∧ AllBare s'.gens
  have lenV := hi.length
  -- the script may be one of the module's own things, or one of its own
  suffices core : ∀ H : Hp, Only H → SqL K H a (ns.map V.int) → HOk P w H s₁.heap → (∀ b, H b ≠ none → b = a) → (H a ≠ none → K.lookup a = none) →
      codeAny (model P w) callerA (.call (.ref fa) ⟨[.ref a], []⟩) Q0 s₁ by
    cases hk : K.lookup a with
    | some o =>
      have e := KX a o hk
      rw [ha] at e
      cases e
      apply core (fun _ => none) (fun _ => Or.inl rfl)
      · exact Or.inr ⟨_, vs.toArray, _, hk, rfl, rfl, rfl, by rw [List.size_toArray, lenV]; exact hl, by simpa using vals_ints hi⟩
      · intro b u z
        cases z
      · intro b z
        exact absurd rfl z
      · intro z
        exact absurd rfl z
    | none =>
      let o : Obj := { cls := .type "list", data := .seq vs.toArray }
      let H : Hp := fun b => if b = a then some (.frz o (.lst (ns.map V.int))) else none
      have at_a : H a = some (.frz o (.lst (ns.map V.int))) := if_pos rfl
      have off : ∀ b, b ≠ a → H b = none := fun b hb => if_neg hb
      have only : ∀ b, H b ≠ none → b = a := fun b z => by
        by_cases hb : b = a
        · exact hb
        · exact absurd (off b hb) z
      refine core H (fun b => ?_) (Or.inl (Or.inr ⟨o, at_a⟩)) (fun b u z => ?_) only (fun _ => hk)
      · by_cases hb : b = a
        · exact Or.inr ⟨_, _, by rw [hb]; exact at_a⟩
        · exact Or.inl (off b hb)
      · have hb : b = a := only b (by rw [z]; simp)
        subst hb
        rw [at_a] at z
        cases z
        exact ⟨ha, by rw [List.length_map]; exact hl, vs, _, vals_ints hi, ha⟩
  intro H hO hS hok hA hK
  have noA : ∀ {b : Addr} {o : Obj} {es : Array DictEntry} {ep : Nat}, s₁.heap.get? b = some o → o.data = .dict es ep → H b = none := by
    intro b o es ep e d
    cases q : H b with
    | none => rfl
    | some u =>
      have e' : b = a := hA b (by rw [q]; simp)
      subst e'
      rw [ha] at e
      cases e
      cases (show Data.seq vs.toArray _ = Data.dict es ep from d)
  have nsK : ∀ {b : Addr} {m : Str → Option Value}, s₁.heap.Ns b m → (hidT s₁.heap H).Ns b m := by
    rintro b m ⟨o, es, ep, e, d, r⟩
    exact ⟨o, es, ep, hidT_get e (noA e d), d, r⟩
  have hKb : K.In (hidT s₁.heap H) := by
    intro b o e
    apply hidT_get (KX b o e)
    cases q : H b with
    | none => rfl
    | some u =>
      have e' : b = a := hA b (by rw [q]; simp)
      subst e'
      rw [hK (by rw [q]; simp)] at e
      cases e
  obtain ⟨mc, l1, l2⟩ := hlim
  have hM : Mod K mg (hidT s₁.heap H) := ⟨hKb, nsK hns, ⟨mb, nsK hb, hbb⟩, ⟨mc, nsK l1, l2⟩⟩
  have e0 : Env0 P w K mg (hidT s₁.heap H) callerA [] s₁ H :=
    ⟨rfl, hM, fun b o e => of_hidT e, Nat.le_of_eq (hidT_size _ _), trivial, fun b hb => absurd (show b ∈ ([] : List Addr) from hb) (by simp), hok, .of_eq hg⟩
  apply codeAny_mono ((F _ hKb (nsK hns)).run callerA [] s₁ H ⟨[.ref a], []⟩ [.ref a] [.ref a] _ E0 rfl hr e0 (hbind s₁ (.ref a)) (.cons rfl .nil) (hsp H hO hS))
  intro r s' h
  match r, h with
  | .error e, h => exact h.elim
  | .ok .next, h => exact h.elim
  | .ok .brk, h => exact h.elim
  | .ok .cont, h => exact h.elim
  | .ok (.ret u), ⟨v, H', os, bare, un, hok', r', q⟩ =>
    have q' : v = .bl true := q
    subst q'
    obtain rfl : u = Value.bool true := r'
    refine ⟨rfl, OldK.of_keep ?_, os, bare⟩
    intro b o e
    cases q : H b with
    | none => exact un.keep b o e q (fun z => absurd (show b ∈ ([] : List Addr) from z) (by simp)) (by simp)
    | some u =>
      rcases hO b with z | ⟨ob, xs, z⟩
      · rw [q] at z
        cases z
      · have z2 := un.frzs b ob _ z
        obtain ⟨e1, _⟩ := hok b _ z
        obtain ⟨e2, _⟩ := hok' b _ z2
        rw [e] at e1
        cases e1
        exact e2
/-- the goal that k_head leaves, from the law's promise -/
theorem walkG {l : PySem.W.OpenLaw} {n k : Nat} {q : Program} {loose : List Str} {XP : (Str → Option Value) → Heap → Prop} {YP : World → Heap → Prop} {d : DefRec} {K : Params → PySem.W.Frag} {sp : World → Sp} {x : Str}
    (hn : l.most = some n) (hn2 : n ≤ sizeLine) (hdf : d.params.defaults = []) (hr : Room k callerA) (hY : ∀ (w : World) (h : Heap), YP w h → (K w.params).In h)
    (F : ∀ (w : World) (mg : Str → Option Value) (fa : Addr) (h : Heap), (K w.params).In h → h.Ns mainGlobals mg → mg d.name = some (.ref fa) →
      ∃ fd : FuncData, (∀ (s : Shared) (u : Value), BindsTo s fd ⟨[u], []⟩ [(x, u)]) ∧
        ∀ base : Heap, (K w.params).In base → base.Ns mainGlobals mg → FnG l.prog w (K w.params) mg base k fa fd [x] (sp w))
    (hsp : ∀ (w : World) (H : Hp) (a : Addr) (ns : List Int), ns.length ≤ n → Only H → SqL (K w.params) H a (ns.map V.int) → sp w [.ref a] H (fun v _ => v = .bl true) E0) :
    PySem.W.WalkO q loose XP YP l.row.toRowW d [] (fun f vs => PySem.call f vs) := by
  apply Att.attach_call hn hdf
  intro w s₀ s₁ mg mb fa o pm cd doc a vs ns G Y ho hd hcd hmg hobj hints hlen hg
  have KX := hY w _ Y
  obtain ⟨fd, hb, hF⟩ := F w mg fa _ KX G.T.g hmg
  exact lawG KX G.T.g G.T.b G.T.builtins G.T.nolimit hg hobj hints (Nat.le_trans hlen hn2) hr hF hb (fun H hO hS => hsp w H a ns hlen hO hS)
end GW

namespace GW
open PySem PySem.Spec PyProof.Rows L2

/-- where the source stands: its dict, the list of its cells -/
structure Sa where
  d : Addr
  c : Addr
def srcKvs (A : Sa) (s : Src) : List (Ky × V) := [(.inr "cells", .ref A.c), (.inr "left", .int s.left), (.inr "mixed", .int s.mixed), (.inr "turn", .int s.turn)]
def SrcOk (A : Sa) (H : Hp) (s : Src) : Prop := H A.d = some (.dK (srcKvs A s)) ∧ H A.c = some (.lst (s.cells.map V.int))
def Frm (A : Sa) (B H : Hp) : Prop := ∀ a o, B a = some o → a ≠ A.d → a ≠ A.c → H a = some o
def Ext (B G G' : Hp) : Prop := Same G G' ∧ ∀ a, G' a ≠ none → G a ≠ none ∨ B a = none
theorem Ext.refl {B G : Hp} : Ext B G G := ⟨Same.refl G, fun _ h => Or.inl h⟩
theorem Ext.trans {B G G1 G2 : Hp} (h : Ext B G G1) (h' : Ext B G1 G2) : Ext B G G2 :=
  ⟨h.1.trans h'.1, fun a q => (h'.2 a q).elim (fun z => h.2 a z) Or.inr⟩
theorem same_upd {H : Hp} {p : Addr} {o : HO} (h : H p = none) : Same H (upd H p o) := fun b x e => by
  rw [upd_ne (ne_of_none e h)]
  exact e
theorem Ext.new {B G : Hp} {p : Addr} {o : HO} (hg : G p = none) (hb : B p = none) : Ext B G (upd G p o) := by
  refine ⟨same_upd hg, fun a q => ?_⟩
  by_cases e : a = p
  · rw [e]; exact Or.inr hb
  · rw [upd_ne e] at q; exact Or.inl q
theorem some_of {α : Type} {x : Option α} {y : α} (h : x = some y) : x ≠ none := by rw [h]; simp

section
variable {K : PySem.W.Frag}
theorem Rd.same {G G' : Hp} {a : Addr} {u : HO} (h : Same G G') (r : Rd G a u) : Rd G' a u := by
  rcases r with r | ⟨o, r⟩
  · exact Or.inl (h _ _ r)
  · exact Or.inr ⟨o, h _ _ r⟩
theorem sqL_same {G G' : Hp} {a : Addr} {xs : List V} (h : Same G G') (r : SqL K G a xs) : SqL K G' a xs := r.imp (Rd.same h) id
theorem sqT_same {G G' : Hp} {a : Addr} {xs : List V} (h : Same G G') (r : SqT K G a xs) : SqT K G' a xs := r.imp (Rd.same h) id
mutual
/-- a frozen value is worth that data -/
inductive Dq (K : PySem.W.Frag) (G : Hp) : V → D → Prop
  | non : Dq K G .non .none
  | bl (b : Bool) : Dq K G (.bl b) (.bool b)
  | int (i : Int) : Dq K G (.int i) (.int i)
  | str (x : Str) : Dq K G (.str x) (.str x)
  | lst {a : Addr} {xs : List V} {ds : List D} : G a = some (.lst xs) → DqA K G xs ds → Dq K G (.ref a) (.list ds)
  | tup {a : Addr} {o : Obj} {xs : List V} {ds : List D} : o.dict = Option.none → G a = some (.frz o (.tup xs)) → DqA K G xs ds → Dq K G (.ref a) (.tuple ds)
inductive DqA (K : PySem.W.Frag) (G : Hp) : List V → List D → Prop
  | nil : DqA K G [] []
  | cons {v : V} {vs : List V} {d : D} {ds : List D} : Dq K G v d → DqA K G vs ds → DqA K G (v :: vs) (d :: ds)
end
mutual
theorem Dq.dp {G : Hp} : ∀ {d : D} {v : V}, Dq K G v d → Dp K G v d
  | _, _, .non => .non
  | _, _, .bl b => .bl b
  | _, _, .int i => .int i
  | _, _, .str x => .str x
  | _, _, .lst a b => .lst (SqL.of a) (DqA.dp b)
  | _, _, .tup _ a b => .tup (.inl (.inr ⟨_, a⟩)) (DqA.dp b)
theorem DqA.dp {G : Hp} : ∀ {ds : List D} {vs : List V}, DqA K G vs ds → DpAll K G vs ds
  | _, _, .nil => .nil
  | _, _, .cons a b => .cons (Dq.dp a) (DqA.dp b)
end
mutual
theorem dp_same {G G' : Hp} (h : Same G G') : ∀ {d : D} {v : V}, Dq K G v d → Dq K G' v d
  | _, _, .non => .non
  | _, _, .bl b => .bl b
  | _, _, .int i => .int i
  | _, _, .str x => .str x
  | _, _, .lst a b => .lst (h _ _ a) (dpA_same h b)
  | _, _, .tup n a b => .tup n (h _ _ a) (dpA_same h b)
theorem dpA_same {G G' : Hp} (h : Same G G') : ∀ {ds : List D} {vs : List V}, DqA K G vs ds → DqA K G' vs ds
  | _, _, .nil => .nil
  | _, _, .cons a b => .cons (dp_same h a) (dpA_same h b)
end
theorem dpA_len {G : Hp} : ∀ {ds : List D} {vs : List V}, DqA K G vs ds → vs.length = ds.length
  | _, _, .nil => rfl
  | _, _, .cons a b => by simp [dpA_len b]
theorem dpA_app {G : Hp} : ∀ {ds es : List D} {vs us : List V}, DqA K G vs ds → DqA K G us es → DqA K G (vs ++ us) (ds ++ es)
  | _, _, _, _, .nil, h => h
  | _, _, _, _, .cons a b, h => .cons a (dpA_app b h)
theorem dpA_get {G : Hp} : ∀ {ds : List D} {vs : List V} {i : Nat} {d : D}, DqA K G vs ds → ds[i]? = some d → ∃ v, vs[i]? = some v ∧ Dq K G v d
  | _, _, i, _, .nil, h => by simp at h
  | _, _, 0, _, .cons a b, h => by
    simp at h
    subst h
    exact ⟨_, rfl, a⟩
  | _, _, i + 1, _, .cons a b, h => by
    obtain ⟨v, e, r⟩ := dpA_get (i := i) b (by simpa using h)
    exact ⟨v, by simpa using e, r⟩
theorem dpA_getV {G : Hp} : ∀ {ds : List D} {vs : List V} {i : Nat} {v : V}, DqA K G vs ds → vs[i]? = some v → ∃ d, ds[i]? = some d ∧ Dq K G v d
  | _, _, i, _, .nil, h => by simp at h
  | _, _, 0, _, .cons a b, h => by
    simp at h
    subst h
    exact ⟨_, rfl, a⟩
  | _, _, i + 1, _, .cons a b, h => by
    obtain ⟨v, e, r⟩ := dpA_getV (i := i) b (by simpa using h)
    exact ⟨v, by simpa using e, r⟩
theorem dpA_take {G : Hp} : ∀ {ds : List D} {vs : List V} (n : Nat), DqA K G vs ds → DqA K G (vs.take n) (ds.take n)
  | _, _, 0, _ => .nil
  | _, _, _ + 1, .nil => .nil
  | _, _, n + 1, .cons a b => .cons a (dpA_take n b)
theorem dpA_drop {G : Hp} : ∀ {ds : List D} {vs : List V} (n : Nat), DqA K G vs ds → DqA K G (vs.drop n) (ds.drop n)
  | _, _, 0, h => h
  | _, _, _ + 1, .nil => .nil
  | _, _, n + 1, .cons a b => dpA_drop n b
theorem dpA_set {G : Hp} {v : V} {d : D} (r : Dq K G v d) : ∀ {ds : List D} {vs : List V} (n : Nat), DqA K G vs ds → DqA K G (vs.set n v) (ds.set n d)
  | _, _, _, .nil => .nil
  | _, _, 0, .cons a b => .cons r b
  | _, _, n + 1, .cons a b => .cons a (dpA_set r n b)
theorem dpA_erase {G : Hp} : ∀ {ds : List D} {vs : List V} (n : Nat), DqA K G vs ds → DqA K G (vs.eraseIdx n) (ds.eraseIdx n)
  | _, _, _, .nil => .nil
  | _, _, 0, .cons a b => b
  | _, _, n + 1, .cons a b => .cons a (dpA_erase n b)
theorem dpA_rev {G : Hp} : ∀ {ds : List D} {vs : List V}, DqA K G vs ds → DqA K G vs.reverse ds.reverse
  | _, _, .nil => .nil
  | _, _, .cons a b => by
    rw [List.reverse_cons, List.reverse_cons]
    exact dpA_app (dpA_rev b) (.cons a .nil)
theorem dpA_last {G : Hp} {ds : List D} {vs : List V} (h : DqA K G vs ds) : DqA K G vs.dropLast ds.dropLast := by
  rw [List.dropLast_eq_take, List.dropLast_eq_take, dpA_len h]
  exact dpA_take _ h
theorem dpA_cut {G : Hp} {ds : List D} {vs : List V} (lo hi : Option Int) (h : DqA K G vs ds) : DqA K G (cutV vs lo hi) (cutL ds lo hi) := by
  unfold cutV cutL
  rw [dpA_len h]
  exact dpA_take _ (dpA_drop _ h)
theorem dpA_rep {G : Hp} {ds : List D} {vs : List V} (h : DqA K G vs ds) : ∀ n : Nat, DqA K G (List.replicate n vs).flatten (List.replicate n ds).flatten
  | 0 => .nil
  | n + 1 => by
    rw [List.replicate_succ, List.replicate_succ, List.flatten_cons, List.flatten_cons]
    exact dpA_app h (dpA_rep h n)
theorem dpA_nil_iff {G : Hp} {ds : List D} {vs : List V} (h : DqA K G vs ds) : vs.isEmpty = ds.isEmpty := by
  cases h <;> rfl

/-- a dict's pairs -/
def KvOk {κ : Type} (K : PySem.W.Frag) (G : Hp) (ks : List (κ × V)) (kvs : List (κ × D)) : Prop := Paired (fun (p : κ × V) (q : κ × D) => p.1 = q.1 ∧ Dq K G p.2 q.2) ks kvs
theorem kv_same {κ : Type} {G G' : Hp} (h : Same G G') {ks : List (κ × V)} {kvs : List (κ × D)} (r : KvOk K G ks kvs) : KvOk K G' ks kvs :=
  Paired.mapP r fun _ _ q => ⟨q.1, dp_same h q.2⟩
/-- a value and what it is worth -/
def VC (K : PySem.W.Frag) (A : Sa) (G H : Hp) : Ct → V → Prop
  | .v d, v => Dq K G v d
  | .l ds, v => ∃ p xs, v = .ref p ∧ H p = some (.lst xs) ∧ DqA K G xs ds
  | .k kvs, v => ∃ p ks, v = .ref p ∧ H p = some (.dK ks) ∧ KvOk K G ks kvs
  | .t kvs, v => ∃ p ks, v = .ref p ∧ H p = some (.dT ks) ∧ KvOk K G ks kvs
  | .s, v => v = .ref A.d
theorem VC.own {A : Sa} {G H : Hp} {c : Ct} {v : V} (h : VC K A G H c v) (o : isOwn c = true) : ∃ p u, v = .ref p ∧ H p = some u ∧ Mut (some u) := by
  cases c with
  | v d => cases o
  | l ds => obtain ⟨p, xs, e, q, _⟩ := h; exact ⟨p, _, e, q, trivial⟩
  | k ds => obtain ⟨p, xs, e, q, _⟩ := h; exact ⟨p, _, e, q, trivial⟩
  | t ds => obtain ⟨p, xs, e, q, _⟩ := h; exact ⟨p, _, e, q, trivial⟩
  | s => cases o
/-- what is frozen grows; the thing itself stays -/
theorem VC.to {A : Sa} {G H G' H' : Hp} {c : Ct} {v : V} (h : VC K A G H c v) (hg : Same G G') (hh : isOwn c = true → ∀ p o, v = .ref p → H p = some o → H' p = some o) : VC K A G' H' c v := by
  cases c with
  | v d => exact dp_same hg h
  | l ds => obtain ⟨p, xs, e, q, r⟩ := h; exact ⟨p, xs, e, hh rfl p _ e q, dpA_same hg r⟩
  | k ds => obtain ⟨p, xs, e, q, r⟩ := h; exact ⟨p, xs, e, hh rfl p _ e q, kv_same hg r⟩
  | t ds => obtain ⟨p, xs, e, q, r⟩ := h; exact ⟨p, xs, e, hh rfl p _ e q, kv_same hg r⟩
  | s => exact h

structure AOk (K : PySem.W.Frag) (A : Sa) (B G H : Hp) (lk : List Nat) (LA : Nat → Addr) (σ : L2.St) (e : Sl) (s : Src) : Prop where
  sub : Same G H
  frm : Frm A B H
  src : SrcOk A H s
  ngd : G A.d = none
  ngc : G A.c = none
  len : e.length = σ.length
  slot : ∀ i c, at_ e i = some c → ∃ v, σ[i]? = some (some v) ∧ VC K A G H c v
  own : ∀ i c p, at_ e i = some c → isOwn c = true → σ[i]? = some (some (.ref p)) → p ≠ A.d ∧ p ≠ A.c ∧ (i ∈ lk → p = LA i ∧ B p ≠ none) ∧ (i ∉ lk → B p = none ∧ G p = none)
  lkb : ∀ i ∈ lk, B (LA i) ≠ none
  dis : ∀ i j c c' p, at_ e i = some c → at_ e j = some c' → isOwn c = true → isOwn c' = true → i ∉ lk → j ∉ lk → σ[i]? = some (some (.ref p)) → σ[j]? = some (some (.ref p)) → i = j

section
variable {A : Sa} {B G H G' H' : Hp} {lk : List Nat} {LA : Nat → Addr} {σ : L2.St} {e : Sl} {s : Src}
theorem SrcOk.same (h : SrcOk A H s) (hh : Same H H') : SrcOk A H' s := ⟨hh _ _ h.1, hh _ _ h.2⟩
/-- the heap grows -/
theorem AOk.grow (a : AOk K A B G H lk LA σ e s) (hs : Same G' H') (hG : Same G G') (hH : Same H H') (nw : ∀ q, H q ≠ none → G' q ≠ none → G q ≠ none) : AOk K A B G' H' lk LA σ e s where
  sub := hs
  frm := fun b o q h1 h2 => hH _ _ (a.frm b o q h1 h2)
  src := a.src.same hH
  ngd := by
    cases q : G' A.d with
    | none => rfl
    | some u => exact absurd a.ngd (nw _ (some_of a.src.1) (some_of q))
  ngc := by
    cases q : G' A.c with
    | none => rfl
    | some u => exact absurd a.ngc (nw _ (some_of a.src.2) (some_of q))
  len := a.len
  slot := fun i c h => by
    obtain ⟨v, e1, r⟩ := a.slot i c h
    exact ⟨v, e1, r.to hG fun _ p o _ q => hH _ _ q⟩
  own := fun i c p h o e1 => by
    obtain ⟨h1, h2, h3, h4⟩ := a.own i c p h o e1
    refine ⟨h1, h2, h3, fun hi => ⟨(h4 hi).1, ?_⟩⟩
    obtain ⟨v, e2, r⟩ := a.slot i c h
    obtain ⟨p', u, e3, q, _⟩ := r.own o
    rw [e1] at e2
    cases e2
    cases e3
    cases z : G' p with
    | none => rfl
    | some w => exact absurd (h4 hi).2 (nw _ (some_of q) (some_of z))
  lkb := a.lkb
  dis := a.dis
/-- a new thing that is not frozen -/
theorem AOk.new {p : Addr} {o : HO} (a : AOk K A B G H lk LA σ e s) (hp : H p = none) : AOk K A B G (upd H p o) lk LA σ e s :=
  a.grow (a.sub.trans (same_upd hp)) (Same.refl G) (same_upd hp) fun _ _ h => h
theorem AOk.gnone {p : Addr} (a : AOk K A B G H lk LA σ e s) (hp : H p = none) : G p = none := by
  cases q : G p with
  | none => rfl
  | some u => rw [a.sub _ _ q] at hp; cases hp
theorem AOk.bnone {p : Addr} (a : AOk K A B G H lk LA σ e s) (hp : H p = none) : B p = none := by
  cases q : B p with
  | none => rfl
  | some u =>
    have h1 : p ≠ A.d := fun z => by rw [z, a.src.1] at hp; cases hp
    have h2 : p ≠ A.c := fun z => by rw [z, a.src.2] at hp; cases hp
    rw [a.frm _ _ q h1 h2] at hp
    cases hp
theorem AOk.ned {p : Addr} (a : AOk K A B G H lk LA σ e s) (hp : H p = none) : p ≠ A.d ∧ p ≠ A.c :=
  ⟨fun z => some_of a.src.1 (z ▸ hp), fun z => some_of a.src.2 (z ▸ hp)⟩
/-- .. that is frozen at once -/
theorem AOk.newF {p : Addr} {o : HO} (a : AOk K A B G H lk LA σ e s) (hp : H p = none) : AOk K A B (upd G p o) (upd H p o) lk LA σ e s := by
  refine a.grow (fun b x q => ?_) (same_upd (a.gnone hp)) (same_upd hp) fun q h1 h2 => ?_
  · by_cases z : b = p
    · rw [z, upd_same] at q ⊢; exact q
    · rw [upd_ne z] at q ⊢; exact a.sub _ _ q
  · have z : q ≠ p := fun z => by rw [z] at h1; exact h1 hp
    rw [upd_ne z] at h2
    exact h2
theorem AOk.extF {p : Addr} {o : HO} (a : AOk K A B G H lk LA σ e s) (hp : H p = none) : Ext B G (upd G p o) := Ext.new (a.gnone hp) (a.bnone hp)

/-- a value that an expression gives -/
def COk (K : PySem.W.Frag) (A : Sa) (B G H : Hp) (lk : List Nat) (σ : L2.St) (e : Sl) (c : Ct) (v : V) : Prop :=
  VC K A G H c v ∧ (isOwn c = true → ∃ p, v = .ref p ∧ B p = none ∧ G p = none ∧ p ≠ A.d ∧ p ≠ A.c ∧ ∀ i c', at_ e i = some c' → isOwn c' = true → i ∉ lk → σ[i]? ≠ some (some (.ref p)))
theorem COk.v {d : D} {v : V} (h : Dq K G v d) : COk K A B G H lk σ e (.v d) v := ⟨h, fun z => by cases z⟩
/-- a new list is one's own -/
theorem AOk.newL {p : Addr} {xs : List V} {ds : List D} (a : AOk K A B G H lk LA σ e s) (hp : H p = none) (h : DqA K G xs ds) : COk K A B G (upd H p (.lst xs)) lk σ e (.l ds) (.ref p) := by
  refine ⟨⟨p, xs, rfl, upd_same, h⟩, fun _ => ⟨p, rfl, a.bnone hp, a.gnone hp, (a.ned hp).1, (a.ned hp).2, fun i c' h1 h2 h3 h4 => ?_⟩⟩
  obtain ⟨v, e1, r⟩ := a.slot i c' h1
  obtain ⟨p', u, e2, q, _⟩ := r.own h2
  rw [h4] at e1
  cases e1
  cases e2
  rw [hp] at q
  cases q
/-- what is frozen -/
theorem AOk.freeze {c : Ct} {v : V} {d : D} (a : AOk K A B G H lk LA σ e s) (h : COk K A B G H lk σ e c v) (f : frz c = some d) : ∃ G', AOk K A B G' H lk LA σ e s ∧ Ext B G G' ∧ Dq K G' v d := by
  cases c with
  | v d' =>
    cases f
    exact ⟨G, a, Ext.refl, h.1⟩
  | l ds =>
    cases f
    obtain ⟨⟨p, xs, rfl, hp, r⟩, o⟩ := h
    obtain ⟨p', e', hb, hg, n1, n2, n3⟩ := o rfl
    cases e'
    have sg : Same G (upd G p (.lst xs)) := same_upd hg
    refine ⟨upd G p (.lst xs), ?_, Ext.new hg hb, .lst upd_same (dpA_same sg r)⟩
    refine { sub := fun b x q => ?_, frm := a.frm, src := a.src, ngd := ?_, ngc := ?_, len := a.len, slot := fun i c h => ?_, own := fun i c q h o' e1 => ?_, lkb := a.lkb, dis := a.dis }
    · by_cases z : b = p
      · rw [z, upd_same] at q
        rw [z, hp]; exact q
      · rw [upd_ne z] at q; exact a.sub _ _ q
    · rw [upd_ne (Ne.symm n1)]; exact a.ngd
    · rw [upd_ne (Ne.symm n2)]; exact a.ngc
    · obtain ⟨v, e1, r'⟩ := a.slot i c h
      exact ⟨v, e1, r'.to sg fun _ _ _ _ q => q⟩
    · obtain ⟨h1, h2, h3, h4⟩ := a.own i c q h o' e1
      refine ⟨h1, h2, h3, fun hi => ⟨(h4 hi).1, ?_⟩⟩
      have z : q ≠ p := fun z => n3 i c h o' hi (by rw [e1, z])
      rw [upd_ne z]
      exact (h4 hi).2
  | k _ => cases f
  | t _ => cases f
  | s => cases f

theorem at_set {e : Sl} {i j : Nat} {x : Option Ct} : at_ (e.set i x) j = if i = j ∧ i < e.length then x else at_ e j := by
  unfold at_
  by_cases h : i = j
  · subst h
    by_cases hl : i < e.length
    · rw [List.getElem?_set_self hl, if_pos ⟨rfl, hl⟩]; rfl
    · rw [if_neg (fun z => hl z.2), List.getElem?_eq_none (by simpa using hl), List.getElem?_eq_none (by simpa using hl)]
  · rw [List.getElem?_set_ne h, if_neg (fun z => h z.1)]
theorem at_lt {e : Sl} {i : Nat} {c : Ct} (h : at_ e i = some c) : i < e.length := by
  unfold at_ at h
  by_cases hl : i < e.length
  · exact hl
  · rw [List.getElem?_eq_none (by simpa using hl)] at h
    cases h
/-- a slot is forgotten -/
theorem AOk.drop {i : Nat} (a : AOk K A B G H lk LA σ e s) : AOk K A B G H lk LA σ (e.set i none) s := by
  have key : ∀ {j c}, at_ (e.set i none) j = some c → at_ e j = some c := fun {j c} h => by
    rw [at_set] at h
    split at h
    · cases h
    · exact h
  exact { sub := a.sub, frm := a.frm, src := a.src, ngd := a.ngd, ngc := a.ngc, len := (by rw [List.length_set]; exact a.len), slot := fun j c h => a.slot j c (key h), own := fun j c p h o q => a.own j c p (key h) o q, lkb := a.lkb, dis := fun j k c c' p h h' o o' n n' q q' => a.dis j k c c' p (key h) (key h') o o' n n' q q' }
/-- .. several -/
theorem AOk.weak {e' : Sl} (a : AOk K A B G H lk LA σ e s) (hl : e'.length = e.length) (h : ∀ j c, at_ e' j = some c → at_ e j = some c) : AOk K A B G H lk LA σ e' s :=
  { sub := a.sub, frm := a.frm, src := a.src, ngd := a.ngd, ngc := a.ngc, len := hl.trans a.len, slot := fun j c q => a.slot j c (h j c q), own := fun j c p q o r => a.own j c p (h j c q) o r, lkb := a.lkb, dis := fun j k c c' p q q' o o' n n' r r' => a.dis j k c c' p (h j c q) (h k c' q') o o' n n' r r' }
/-- a value is put into a slot -/
theorem AOk.put {i : Nat} {c : Ct} {v : V} (a : AOk K A B G H lk LA σ e s) (h : COk K A B G H lk σ e c v) (hi : i ∉ lk) (hl : i < e.length) : AOk K A B G H lk LA (σ.set i (some v)) (e.set i (some c)) s := by
  have hσ : i < σ.length := by rw [← a.len]; exact hl
  have same : (σ.set i (some v))[i]? = some (some v) := List.getElem?_set_self hσ
  have ne : ∀ {j}, j ≠ i → (σ.set i (some v))[j]? = σ[j]? := fun {j} z => List.getElem?_set_ne (Ne.symm z)
  have key : ∀ {j c'}, at_ (e.set i (some c)) j = some c' → (j = i ∧ c' = c) ∨ (j ≠ i ∧ at_ e j = some c') := fun {j c'} q => by
    rw [at_set] at q
    by_cases z : i = j
    · rw [if_pos ⟨z, hl⟩] at q
      cases q
      exact Or.inl ⟨z.symm, rfl⟩
    · rw [if_neg (fun y => z y.1)] at q
      exact Or.inr ⟨Ne.symm z, q⟩
  refine { sub := a.sub, frm := a.frm, src := a.src, ngd := a.ngd, ngc := a.ngc, len := (by rw [List.length_set, List.length_set]; exact a.len), slot := fun j c' q => ?_, own := fun j c' p q o r => ?_, lkb := a.lkb, dis := fun j k c1 c2 p q1 q2 o1 o2 n1 n2 r1 r2 => ?_ }
  · rcases key q with ⟨rfl, rfl⟩ | ⟨z, q⟩
    · exact ⟨v, same, h.1⟩
    · rw [ne z]; exact a.slot j c' q
  · rcases key q with ⟨rfl, rfl⟩ | ⟨z, q⟩
    · rw [same] at r
      cases r
      obtain ⟨p', e1, hb, hg, n1, n2, _⟩ := h.2 o
      cases e1
      exact ⟨n1, n2, fun hk => absurd hk hi, fun _ => ⟨hb, hg⟩⟩
    · rw [ne z] at r; exact a.own j c' p q o r
  · rcases key q1 with ⟨z1, y1⟩ | ⟨z1, y1⟩
    · rcases key q2 with ⟨z2, y2⟩ | ⟨z2, y2⟩
      · rw [z1, z2]
      · rw [z1, same] at r1
        cases r1
        rw [y1] at o1
        obtain ⟨p', e1, _, _, _, _, no⟩ := h.2 o1
        cases e1
        rw [ne z2] at r2
        exact absurd r2 (no k c2 y2 o2 n2)
    · rcases key q2 with ⟨z2, y2⟩ | ⟨z2, y2⟩
      · rw [z2, same] at r2
        cases r2
        rw [y2] at o2
        obtain ⟨p', e1, _, _, _, _, no⟩ := h.2 o2
        cases e1
        rw [ne z1] at r1
        exact absurd r1 (no j c1 y1 o1 n1)
      · rw [ne z1] at r1
        rw [ne z2] at r2
        exact a.dis j k c1 c2 p y1 y2 o1 o2 n1 n2 r1 r2
/-- the thing that a slot has as its own is changed -/
theorem AOk.change {i : Nat} {c c' : Ct} {p : Addr} {o : HO} (a : AOk K A B G H lk LA σ e s) (h : at_ e i = some c) (ow : isOwn c = true) (hi : i ∉ lk) (hσ : σ[i]? = some (some (.ref p)))
    (h' : VC K A G (upd H p o) c' (.ref p)) (ow' : isOwn c' = true) : AOk K A B G (upd H p o) lk LA σ (e.set i (some c')) s := by
  obtain ⟨n1, n2, _, n3⟩ := a.own i c p h ow hσ
  obtain ⟨hb, hg⟩ := n3 hi
  have hl := at_lt h
  have key : ∀ {j c''}, at_ (e.set i (some c')) j = some c'' → (j = i ∧ c'' = c') ∨ (j ≠ i ∧ at_ e j = some c'') := fun {j c''} q => by
    rw [at_set] at q
    by_cases z : i = j
    · rw [if_pos ⟨z, hl⟩] at q
      cases q
      exact Or.inl ⟨z.symm, rfl⟩
    · rw [if_neg (fun y => z y.1)] at q
      exact Or.inr ⟨Ne.symm z, q⟩
  have off : ∀ {b u}, b ≠ p → H b = some u → upd H p o b = some u := fun {b u} z q => by rw [upd_ne z]; exact q
  have gp : ∀ {b u}, G b = some u → b ≠ p := fun {b u} q z => absurd hg (some_of (z ▸ q))
  refine { sub := fun b u q => off (gp q) (a.sub b u q), frm := fun b u q m1 m2 => off (fun z => absurd hb (some_of (z ▸ q))) (a.frm b u q m1 m2), src := ⟨off (Ne.symm n1) a.src.1, off (Ne.symm n2) a.src.2⟩, ngd := a.ngd, ngc := a.ngc, len := (by rw [List.length_set]; exact a.len), slot := fun j c'' q => ?_, own := fun j c'' q hq ow'' r => ?_, lkb := a.lkb, dis := fun j k c1 c2 q q1 q2 o1 o2 m1 m2 r1 r2 => ?_ }
  · rcases key q with ⟨rfl, rfl⟩ | ⟨z, q⟩
    · exact ⟨_, hσ, h'⟩
    · obtain ⟨v, e1, r⟩ := a.slot j c'' q
      refine ⟨v, e1, r.to (Same.refl G) fun ow'' q' u ev hq => off (fun zp => ?_) hq⟩
      subst zp
      subst ev
      -- two slots with one thing
      by_cases hj : j ∈ lk
      · obtain ⟨_, _, m3, _⟩ := a.own j c'' q' q ow'' e1
        exact (m3 hj).2 hb
      · exact z (a.dis j i c'' c q' q h ow'' ow hj hi e1 hσ)
  · rcases key hq with ⟨rfl, rfl⟩ | ⟨z, hq⟩
    · exact a.own j c q h ow r
    · exact a.own j c'' q hq ow'' r
  · rcases key q1 with ⟨z1, y1⟩ | ⟨z1, y1⟩
    · rcases key q2 with ⟨z2, y2⟩ | ⟨z2, y2⟩
      · rw [z1, z2]
      · exact a.dis j k c c2 q (z1 ▸ h) y2 ow o2 m1 m2 r1 r2
    · rcases key q2 with ⟨z2, y2⟩ | ⟨z2, y2⟩
      · exact a.dis j k c1 c q y1 (z2 ▸ h) o1 ow m1 m2 r1 r2
      · exact a.dis j k c1 c2 q y1 y2 o1 o2 m1 m2 r1 r2
/-- a slot's thing becomes a value by itself -/
theorem AOk.take {i : Nat} {c : Ct} {v : V} (a : AOk K A B G H lk LA σ e s) (h : at_ e i = some c) (hi : i ∉ lk) (hσ : σ[i]? = some (some v)) : COk K A B G H lk σ (e.set i none) c v := by
  obtain ⟨v', e1, r⟩ := a.slot i c h
  rw [hσ] at e1
  cases e1
  refine ⟨r, fun ow => ?_⟩
  obtain ⟨p, u, rfl, q, _⟩ := r.own ow
  obtain ⟨n1, n2, _, n3⟩ := a.own i c p h ow hσ
  refine ⟨p, rfl, (n3 hi).1, (n3 hi).2, n1, n2, fun j c' q1 o1 m1 r1 => ?_⟩
  rw [at_set] at q1
  by_cases z : i = j
  · rw [if_pos ⟨z, at_lt h⟩] at q1
    cases q1
  · rw [if_neg (fun y => z y.1)] at q1
    exact z (a.dis i j c c' p h q1 ow o1 hi m1 hσ r1)

theorem Ext.sub {B B' G G' : Hp} (h : Ext B' G G') (hb : Same B B') : Ext B G G' := by
  refine ⟨h.1, fun a q => (h.2 a q).imp id fun z => ?_⟩
  cases y : B a with
  | none => rfl
  | some u => rw [hb _ _ y] at z; cases z
/-- a slot's thing is lent: it stays as it is -/
def lockA (LA : Nat → Addr) (i : Nat) (p : Addr) : Nat → Addr := fun j => if j = i then p else LA j
theorem AOk.lock {i : Nat} {c : Ct} {p : Addr} {o : HO} (a : AOk K A B G H lk LA σ e s) (h : at_ e i = some c) (ow : isOwn c = true) (hσ : σ[i]? = some (some (.ref p))) (hp : H p = some o) :
    AOk K A (upd B p o) G H (i :: lk) (lockA LA i p) σ e s := by
  have bn : ∀ {b}, B b ≠ none → upd B p o b ≠ none := fun {b} z => by
    by_cases q : b = p
    · rw [q, upd_same]; simp
    · rw [upd_ne q]; exact z
  have li : lockA LA i p i = p := if_pos rfl
  have ln : ∀ {j}, j ≠ i → lockA LA i p j = LA j := fun {j} z => if_neg z
  refine { sub := a.sub, frm := fun b u q m1 m2 => ?_, src := a.src, ngd := a.ngd, ngc := a.ngc, len := a.len, slot := a.slot, own := fun j c' q hq ow' r => ?_, lkb := fun j hj => ?_, dis := fun j k c1 c2 q q1 q2 o1 o2 m1 m2 r1 r2 => ?_ }
  · by_cases z : b = p
    · rw [z, upd_same] at q
      rw [z, hp]; exact q
    · rw [upd_ne z] at q; exact a.frm b u q m1 m2
  · obtain ⟨n1, n2, n3, n4⟩ := a.own j c' q hq ow' r
    refine ⟨n1, n2, fun hj => ?_, fun hj => ?_⟩
    · by_cases z : j = i
      · subst z
        rw [hσ] at r
        cases r
        exact ⟨li.symm, by rw [upd_same]; simp⟩
      · have hj' : j ∈ lk := (List.mem_cons.mp hj).resolve_left z
        exact ⟨by rw [ln z]; exact (n3 hj').1, bn (n3 hj').2⟩
    · have hj' : j ∉ lk := fun z => hj (List.mem_cons_of_mem _ z)
      have z : j ≠ i := fun z => hj (by rw [z]; exact List.mem_cons_self)
      have hqp : q ≠ p := fun y => by
        subst y
        by_cases hi : i ∈ lk
        · exact ((a.own i c q h ow hσ).2.2.1 hi).2 (n4 hj').1
        · exact z (a.dis j i c' c q hq h ow' ow hj' hi r hσ)
      exact ⟨by rw [upd_ne hqp]; exact (n4 hj').1, (n4 hj').2⟩
  · by_cases z : j = i
    · rw [z, li, upd_same]; simp
    · rw [ln z]
      exact bn (a.lkb j ((List.mem_cons.mp hj).resolve_left z))
  · exact a.dis j k c1 c2 q q1 q2 o1 o2 (fun z => m1 (List.mem_cons_of_mem _ z)) (fun z => m2 (List.mem_cons_of_mem _ z)) r1 r2
theorem AOk.unlock {i : Nat} {p : Addr} {o : HO} {σ' : L2.St} {e' : Sl} {s' : Src} (a' : AOk K A (upd B p o) G' H' (i :: lk) (lockA LA i p) σ' e' s')
    (hin : i ∈ lk → B p = some o ∧ LA i = p) (hout : i ∉ lk → B p = none ∧ G' p = none) (hlk : ∀ j ∈ lk, B (LA j) ≠ none) : AOk K A B G' H' lk LA σ' e' s' := by
  have li : lockA LA i p i = p := if_pos rfl
  have ln : ∀ {j}, j ≠ i → lockA LA i p j = LA j := fun {j} z => if_neg z
  have sameB : Same B (upd B p o) := fun b u q => by
    by_cases z : b = p
    · by_cases hi : i ∈ lk
      · rw [z] at q ⊢
        rw [upd_same, ← (hin hi).1]; exact q
      · rw [z, (hout hi).1] at q; cases q
    · rw [upd_ne z]; exact q
  have bnone : ∀ {b}, upd B p o b = none → B b = none := fun {b} q => by
    cases y : B b with
    | none => rfl
    | some u => rw [sameB _ _ y] at q; cases q
  refine { sub := a'.sub, frm := fun b u q m1 m2 => a'.frm b u (sameB b u q) m1 m2, src := a'.src, ngd := a'.ngd, ngc := a'.ngc, len := a'.len, slot := a'.slot, own := fun j c' q hq ow' r => ?_, lkb := hlk, dis := fun j k c1 c2 q q1 q2 o1 o2 m1 m2 r1 r2 => ?_ }
  · obtain ⟨n1, n2, n3, n4⟩ := a'.own j c' q hq ow' r
    refine ⟨n1, n2, fun hj => ?_, fun hj => ?_⟩
    · have eq : q = LA j := by
        have y := (n3 (List.mem_cons_of_mem _ hj)).1
        by_cases z : j = i
        · rw [z] at hj
          rw [z, li] at y
          rw [z, y]
          exact (hin hj).2.symm
        · rw [ln z] at y; exact y
      exact ⟨eq, by rw [eq]; exact hlk j hj⟩
    · by_cases z : j = i
      · rw [z] at hj
        have y := (n3 (by rw [z]; exact List.mem_cons_self)).1
        rw [z, li] at y
        rw [y]
        exact hout hj
      · have hj' : j ∉ i :: lk := fun y => (List.mem_cons.mp y).elim z hj
        exact ⟨bnone (n4 hj').1, (n4 hj').2⟩
  · have clash : ∀ {j c1 q}, at_ e' j = some c1 → isOwn c1 = true → σ'[j]? = some (some (.ref q)) → j ∉ lk → j ≠ i → q ≠ p := fun {j c1 q} h1 h2 h3 hj z y => by
      have hj' : j ∉ i :: lk := fun y => (List.mem_cons.mp y).elim z hj
      obtain ⟨_, _, _, n4⟩ := a'.own j c1 q h1 h2 h3
      have := (n4 hj').1
      rw [y, upd_same] at this
      cases this
    have isP : ∀ {c1 q}, at_ e' i = some c1 → isOwn c1 = true → σ'[i]? = some (some (.ref q)) → q = p := fun {c1 q} h1 h2 h3 => by
      have y := ((a'.own i c1 q h1 h2 h3).2.2.1 List.mem_cons_self).1
      rw [li] at y; exact y
    by_cases zj : j = i
    · by_cases zk : k = i
      · rw [zj, zk]
      · rw [zj] at q1 r1
        exact absurd (isP q1 o1 r1) (clash q2 o2 r2 m2 zk)
    · by_cases zk : k = i
      · rw [zk] at q2 r2
        exact absurd (isP q2 o2 r2) (clash q1 o1 r1 m1 zj)
      · exact a'.dis j k c1 c2 q q1 q2 o1 o2 (fun y => (List.mem_cons.mp y).elim zj m1) (fun y => (List.mem_cons.mp y).elim zk m2) r1 r2
/-- what is made meanwhile is one's own -/
theorem COk.unlock {i : Nat} {p : Addr} {o : HO} {c : Ct} {v : V} (a' : AOk K A (upd B p o) G' H' (i :: lk) (lockA LA i p) σ e s) (h : COk K A (upd B p o) G' H' (i :: lk) σ e c v) (sameB : Same B (upd B p o)) :
    COk K A B G' H' lk σ e c v := by
  refine ⟨h.1, fun ow => ?_⟩
  obtain ⟨q, e1, hb, hg, n1, n2, n3⟩ := h.2 ow
  have hb' : B q = none := by
    cases y : B q with
    | none => rfl
    | some u => rw [sameB _ _ y] at hb; cases hb
  refine ⟨q, e1, hb', hg, n1, n2, fun j c' h1 h2 h3 h4 => ?_⟩
  by_cases z : j = i
  · have y := ((a'.own j c' q h1 h2 h4).2.2.1 (by rw [z]; exact List.mem_cons_self)).2
    exact y hb
  · exact n3 j c' h1 h2 (fun y => (List.mem_cons.mp y).elim z h3) h4
end
end
end GW

namespace GW
open PySem PySem.Spec PyProof.Rows L2

section
variable {K : PySem.W.Frag} {A : Sa} {B G H G' H' : Hp} {lk : List Nat} {LA : Nat → Addr} {σ : L2.St} {e : Sl} {s : Src}

/-- an argument as it stands when all are there -/
def RvOk (K : PySem.W.Frag) (G H : Hp) : Rv → V → Prop
  | .d d, v => Dq K G v d ∨ ∃ p xs ds, v = .ref p ∧ d = .list ds ∧ H p = some (.lst xs) ∧ DqA K G xs ds
  | .k kvs, v => ∃ p ks, v = .ref p ∧ Rd H p (.dK ks) ∧ KvOk K G ks kvs
  | .t kvs, v => ∃ p ks, v = .ref p ∧ Rd H p (.dT ks) ∧ KvOk K G ks kvs
theorem RvOk.dp (hs : Same G H) {d : D} {v : V} (h : RvOk K G H (.d d) v) : Dp K H v d := by
  rcases h with h | ⟨p, xs, ds, rfl, rfl, hp, r⟩
  · exact (dp_same hs h).dp
  · exact .lst (SqL.of hp) (dpA_same hs r).dp
theorem RvOk.list (hs : Same G H) {ds : List D} {v : V} (h : RvOk K G H (.d (.list ds)) v) : ∃ p xs, v = .ref p ∧ H p = some (.lst xs) ∧ DqA K G xs ds := by
  rcases h with h | ⟨p, xs, ds', rfl, e, hp, r⟩
  · cases h with
    | lst h1 h2 => exact ⟨_, _, rfl, hs _ _ h1, h2⟩
  · cases e
    exact ⟨p, xs, rfl, hp, r⟩
theorem RvOk.frozen {d : D} {v : V} (h : RvOk K G H (.d d) v) (n : ∀ ds, d ≠ .list ds) : Dq K G v d := by
  rcases h with h | ⟨p, xs, ds', rfl, e, hp, r⟩
  · exact h
  · exact absurd e (n ds')
theorem RvOk.tup (hs : Same G H) {ds : List D} {v : V} (h : RvOk K G H (.d (.tuple ds)) v) : ∃ p o xs, v = .ref p ∧ o.dict = none ∧ H p = some (.frz o (.tup xs)) ∧ G p = some (.frz o (.tup xs)) ∧ DqA K G xs ds := by
  cases h.frozen (fun _ z => by cases z) with
  | tup n h1 h2 => exact ⟨_, _, _, rfl, n, hs _ _ h1, h1, h2⟩
theorem RvOk.int {i : Int} {v : V} (h : RvOk K G H (.d (.int i)) v) : v = .int i := by
  cases h.frozen (fun _ z => by cases z)
  rfl
theorem RvOk.bool {b : Bool} {v : V} (h : RvOk K G H (.d (.bool b)) v) : v = .bl b := by
  cases h.frozen (fun _ z => by cases z)
  rfl

/-- what is wanted of an operation's value -/
abbrev Fin (K : PySem.W.Frag) (A : Sa) (B G : Hp) (lk : List Nat) (LA : Nat → Addr) (σ : L2.St) (e : Sl) (s : Src) (c : Ct) (Q : VK) : Prop :=
  ∀ v G' H', AOk K A B G' H' lk LA σ e s → Ext B G G' → COk K A B G' H' lk σ e c v → Q v H'
/-- an operation by values -/
def rO (K : PySem.W.Frag) (A : Sa) (o : Op) : List V → Hp → VK → Prop := fun vs H Q =>
  ∃ B G lk LA σ e s rs c, AOk K A B G H lk LA σ e s ∧ Paired (RvOk K G H) rs vs ∧ opD o rs = some c ∧ Fin K A B G lk LA σ e s c Q
abbrev rO2 (K : PySem.W.Frag) (A : Sa) (o : Op) : R2 := fun x y H Q => rO K A o [x, y] H Q
abbrev rO1 (K : PySem.W.Frag) (A : Sa) (o : Op) : V → Hp → VK → Prop := fun x H Q => rO K A o [x] H Q
theorem fin_v {d : D} {v : V} {Q : VK} (a : AOk K A B G H lk LA σ e s) (k : Fin K A B G lk LA σ e s (.v d) Q) (h : Dq K G v d) : Q v H := k v G H a Ext.refl (COk.v h)
theorem fin_l {ds : List D} {xs : List V} {Q : VK} {p : Addr} (a : AOk K A B G H lk LA σ e s) (k : Fin K A B G lk LA σ e s (.l ds) Q) (h : DqA K G xs ds) (hp : H p = none) : Q (.ref p) (upd H p (.lst xs)) :=
  k _ G _ (a.new hp) Ext.refl (a.newL hp h)
theorem fin_t {ds : List D} {xs : List V} {Q : VK} {p : Addr} {o : Obj} (a : AOk K A B G H lk LA σ e s) (k : Fin K A B G lk LA σ e s (.v (.tuple ds)) Q) (h : DqA K G xs ds) (n : o.dict = none) (hp : H p = none) : Q (.ref p) (upd H p (.frz o (.tup xs))) :=
  k _ _ _ (a.newF hp) (a.extF hp) (COk.v (.tup n upd_same (dpA_same (same_upd (a.gnone hp)) h)))
/-- a tuple's object, new -/
abbrev tupO (its : List Value) : Obj := { cls := .type "tuple", data := .seq its.toArray }
theorem tup_ok {P : Program} {w : World} {H : Hp} {h : Heap} {p : Addr} {its : List Value} {xs : List V} (r : Vals xs its) (z : xs.length ≤ sizeLine) (e : h.get? p = some (tupO its)) :
    ObjOk P w H h p (.frz (tupO its) (.tup xs)) := ⟨e, z, its, r, ⟨_, e, rfl, _, rfl⟩⟩
theorem sqT_frz {o : Obj} {p : Addr} {xs : List V} (h : H p = some (.frz o (.tup xs))) : SqT K H p xs := Or.inl (Or.inr ⟨o, h⟩)

theorem p2 {F : Rv → V → Prop} {rs : List Rv} {x y : V} (h : Paired F rs [x, y]) : ∃ a b, rs = [a, b] ∧ F a x ∧ F b y := by
  cases h with
  | cons h1 t => cases t with
    | cons h2 t => cases t; exact ⟨_, _, rfl, h1, h2⟩
theorem p1 {F : Rv → V → Prop} {rs : List Rv} {x : V} (h : Paired F rs [x]) : ∃ a, rs = [a] ∧ F a x := by
  cases h with
  | cons h1 t => cases t; exact ⟨_, rfl, h1⟩
theorem p3 {F : Rv → V → Prop} {rs : List Rv} {x y z : V} (h : Paired F rs [x, y, z]) : ∃ a b c, rs = [a, b, c] ∧ F a x ∧ F b y ∧ F c z := by
  cases h with
  | cons h1 t => cases t with
    | cons h2 t => cases t with
      | cons h3 t => cases t; exact ⟨_, _, _, rfl, h1, h2, h3⟩
end

section
variable {X : Cx} {A : Sa}
/-- two data -/
theorem two_d {o : Op} {r1 r2 : Rv} {c : Ct} (h : opD o [r1, r2] = some c) (ho : ∀ d d', opD o [.d d, .d d'] = op2 o d d')
    (hk : ∀ kvs r, opD o [.k kvs, r] = none) (ht : ∀ kvs r, opD o [.t kvs, r] = none) (hk2 : ∀ d kvs, opD o [.d d, .k kvs] = none) (ht2 : ∀ d kvs, opD o [.d d, .t kvs] = none) :
    ∃ d d', r1 = .d d ∧ r2 = .d d' ∧ op2 o d d' = some c := by
  cases r1 with
  | d x =>
    cases r2 with
    | d y => exact ⟨x, y, rfl, rfl, by rw [← ho]; exact h⟩
    | k _ => rw [hk2] at h; cases h
    | t _ => rw [ht2] at h; cases h
  | k _ => rw [hk] at h; cases h
  | t _ => rw [ht] at h; cases h
theorem two_add {r1 r2 : Rv} {c : Ct} (h : opD .add [r1, r2] = some c) : ∃ d d', r1 = .d d ∧ r2 = .d d' ∧ op2 .add d d' = some c :=
  two_d h (fun _ _ => rfl) (fun _ r => by cases r <;> rfl) (fun _ r => by cases r <;> rfl) (fun _ _ => rfl) (fun _ _ => rfl)
theorem two_sub {r1 r2 : Rv} {c : Ct} (h : opD .sub [r1, r2] = some c) : ∃ d d', r1 = .d d ∧ r2 = .d d' ∧ op2 .sub d d' = some c :=
  two_d h (fun _ _ => rfl) (fun _ r => by cases r <;> rfl) (fun _ r => by cases r <;> rfl) (fun _ _ => rfl) (fun _ _ => rfl)
theorem two_mul {r1 r2 : Rv} {c : Ct} (h : opD .mul [r1, r2] = some c) : ∃ d d', r1 = .d d ∧ r2 = .d d' ∧ op2 .mul d d' = some c :=
  two_d h (fun _ _ => rfl) (fun _ r => by cases r <;> rfl) (fun _ r => by cases r <;> rfl) (fun _ _ => rfl) (fun _ _ => rfl)
theorem two_fdiv {r1 r2 : Rv} {c : Ct} (h : opD .fdiv [r1, r2] = some c) : ∃ d d', r1 = .d d ∧ r2 = .d d' ∧ op2 .fdiv d d' = some c :=
  two_d h (fun _ _ => rfl) (fun _ r => by cases r <;> rfl) (fun _ r => by cases r <;> rfl) (fun _ _ => rfl) (fun _ _ => rfl)
theorem two_mod {r1 r2 : Rv} {c : Ct} (h : opD .mod [r1, r2] = some c) : ∃ d d', r1 = .d d ∧ r2 = .d d' ∧ op2 .mod d d' = some c :=
  two_d h (fun _ _ => rfl) (fun _ r => by cases r <;> rfl) (fun _ r => by cases r <;> rfl) (fun _ _ => rfl) (fun _ _ => rfl)
theorem two_eq {r1 r2 : Rv} {c : Ct} (h : opD .eq [r1, r2] = some c) : ∃ d d', r1 = .d d ∧ r2 = .d d' ∧ op2 .eq d d' = some c :=
  two_d h (fun _ _ => rfl) (fun _ r => by cases r <;> rfl) (fun _ r => by cases r <;> rfl) (fun _ _ => rfl) (fun _ _ => rfl)
theorem two_ne {r1 r2 : Rv} {c : Ct} (h : opD .ne [r1, r2] = some c) : ∃ d d', r1 = .d d ∧ r2 = .d d' ∧ op2 .ne d d' = some c :=
  two_d h (fun _ _ => rfl) (fun _ r => by cases r <;> rfl) (fun _ r => by cases r <;> rfl) (fun _ _ => rfl) (fun _ _ => rfl)
theorem two_lt {r1 r2 : Rv} {c : Ct} (h : opD .lt [r1, r2] = some c) : ∃ d d', r1 = .d d ∧ r2 = .d d' ∧ op2 .lt d d' = some c :=
  two_d h (fun _ _ => rfl) (fun _ r => by cases r <;> rfl) (fun _ r => by cases r <;> rfl) (fun _ _ => rfl) (fun _ _ => rfl)
theorem two_le {r1 r2 : Rv} {c : Ct} (h : opD .le [r1, r2] = some c) : ∃ d d', r1 = .d d ∧ r2 = .d d' ∧ op2 .le d d' = some c :=
  two_d h (fun _ _ => rfl) (fun _ r => by cases r <;> rfl) (fun _ r => by cases r <;> rfl) (fun _ _ => rfl) (fun _ _ => rfl)
theorem two_gt {r1 r2 : Rv} {c : Ct} (h : opD .gt [r1, r2] = some c) : ∃ d d', r1 = .d d ∧ r2 = .d d' ∧ op2 .gt d d' = some c :=
  two_d h (fun _ _ => rfl) (fun _ r => by cases r <;> rfl) (fun _ r => by cases r <;> rfl) (fun _ _ => rfl) (fun _ _ => rfl)
theorem two_ge {r1 r2 : Rv} {c : Ct} (h : opD .ge [r1, r2] = some c) : ∃ d d', r1 = .d d ∧ r2 = .d d' ∧ op2 .ge d d' = some c :=
  two_d h (fun _ _ => rfl) (fun _ r => by cases r <;> rfl) (fun _ r => by cases r <;> rfl) (fun _ _ => rfl) (fun _ _ => rfl)

theorem fits_le {n : Nat} (h : fits n = true) : n ≤ sizeLine := of_decide_eq_true h
theorem within_b {i : Int} (h : within i = true) : -(2 ^ 62) ≤ i ∧ i < 2 ^ 62 := by
  unfold within at h
  rw [Bool.and_eq_true] at h
  exact ⟨of_decide_eq_true h.1, of_decide_eq_true h.2⟩

theorem o_add : OpR X (binaryOp .Add) (rO2 X.K A .add) := by
  intro pins s σ H x y v u Q I rx ry ⟨B, G, lk, LA, σ0, e, s0, rs, c, a, pr, hd, k⟩
  obtain ⟨r1, r2, rfl, h1, h2⟩ := p2 pr
  obtain ⟨d, d', rfl, rfl, hq⟩ := two_add hd
  clear hd
  have hd : addD d d' = some c := hq
  clear hq
  unfold addD at hd
  split at hd
  · cases hd
    have e1 := h1.int
    have e2 := h2.int
    subst e1 e2
    exact op_add pins s σ H _ _ v u Q I rx ry ⟨_, _, rfl, rfl, fin_v a k (.int _)⟩
  · rename_i xs ys
    split at hd
    · rename_i hf
      cases hd
      obtain ⟨p, o1, vs, rfl, n1, t1, g1, q1⟩ := h1.tup a.sub
      obtain ⟨p', o2, ws, rfl, n2, t2, g2, q2⟩ := h2.tup a.sub
      cases rx
      cases ry
      obtain ⟨its, r1, m1, _⟩ := I.tuple (sqT_frz t1)
      obtain ⟨its2, r2, m2, _⟩ := I.tuple (sqT_frz t2)
      by_cases hx : vs = []
      · subst hx
        cases r1
        cases q1
        exact cat_tup0 m1 m2 ⟨.ref _, H, I, rfl, fin_v a k (.tup n2 g2 q2)⟩
      · have hz : vs.length + ws.length ≤ sizeLine := by rw [dpA_len q1, dpA_len q2]; exact fits_le hf
        refine HT.cat_tup m1 m2 (fun z => hx (r1.nil_iff.mp z)) (fun z => ?_) (fun z => ?_) (by rw [← r1.length, ← r2.length]; exact hz)
        · have e2 := r2.nil_iff.mp z
          subst e2
          cases q2
          rw [List.append_nil] at k
          exact ⟨.ref _, H, I, rfl, fin_v a k (.tup n1 g1 q1)⟩
        · refine ⟨.ref s.heap.objs.size, _, I.laid (t' := s.toks) (o := .frz (tupO (its ++ its2)) (.tup (vs ++ ws))) (fun b ob q => Heap.get?_push_of_some _ q) (Nat.le_refl _) ?_, rfl, fin_t a k (dpA_app q1 q2) rfl (I.hok.fresh (Nat.le_refl _))⟩
          exact tup_ok (r1.append r2) (by rw [List.length_append]; exact hz) (Heap.get?_push_size _ rfl)
    · cases hd
  · rename_i xs ys
    split at hd
    · rename_i hf
      cases hd
      obtain ⟨p, vs, rfl, t1, q1⟩ := h1.list a.sub
      obtain ⟨p', ws, rfl, t2, q2⟩ := h2.list a.sub
      refine op_cat pins s σ H _ _ v u Q I rx ry ⟨_, _, _, _, rfl, rfl, t1, t2, ?_, ?_⟩
      · rw [dpA_len q1, dpA_len q2]; exact fits_le hf
      · intro p hp
        exact fin_l a k (dpA_app q1 q2) hp
    · cases hd
  · cases hd
theorem o_sub : OpR X (binaryOp .Sub) (rO2 X.K A .sub) := by
  intro pins s σ H x y v u Q I rx ry ⟨B, G, lk, LA, σ0, e, s0, rs, c, a, pr, hd, k⟩
  obtain ⟨r1, r2, rfl, h1, h2⟩ := p2 pr
  obtain ⟨d, d', rfl, rfl, hq⟩ := two_sub hd
  clear hd
  unfold op2 at hq
  dsimp only at hq
  have hd := hq
  clear hq
  split at hd
  · cases hd
    have e1 := h1.int
    have e2 := h2.int
    subst e1 e2
    exact op_sub pins s σ H _ _ v u Q I rx ry ⟨_, _, rfl, rfl, fin_v a k (.int _)⟩
  · cases hd
theorem o_mul : OpR X (binaryOp .Mult) (rO2 X.K A .mul) := by
  intro pins s σ H x y v u Q I rx ry ⟨B, G, lk, LA, σ0, e, s0, rs, c, a, pr, hd, k⟩
  obtain ⟨r1, r2, rfl, h1, h2⟩ := p2 pr
  obtain ⟨d, d', rfl, rfl, hq⟩ := two_mul hd
  clear hd
  have hd : mulD d d' = some c := hq
  clear hq
  unfold mulD at hd
  split at hd
  · split at hd
    · rename_i hm
      cases hd
      have e1 := h1.int
      have e2 := h2.int
      subst e1 e2
      refine op_mul pins s σ H _ _ v u Q I rx ry ⟨_, _, rfl, rfl, ?_, fin_v a k (.int _)⟩
      unfold mulOk at hm
      simp only [Bool.or_eq_true, Bool.and_eq_true, decide_eq_true_eq] at hm
      exact hm
    · cases hd
  · split at hd
    · rename_i hm
      cases hd
      rw [Bool.and_eq_true] at hm
      obtain ⟨p, vs, rfl, t1, q1⟩ := h1.list a.sub
      have e2 := h2.int
      subst e2
      have hb := within_b hm.1
      refine op_rep pins s σ H _ _ v u Q I rx ry ⟨_, _, _, rfl, rfl, t1, by omega, by omega, ?_, ?_⟩
      · rw [dpA_len q1]; exact fits_le hm.2
      · intro p hp
        exact fin_l a k (dpA_rep q1 _) hp
    · cases hd
  · cases hd
theorem o_fdiv : OpR X (binaryOp .FloorDiv) (rO2 X.K A .fdiv) := by
  intro pins s σ H x y v u Q I rx ry ⟨B, G, lk, LA, σ0, e, s0, rs, c, a, pr, hd, k⟩
  obtain ⟨r1, r2, rfl, h1, h2⟩ := p2 pr
  obtain ⟨d, d', rfl, rfl, hq⟩ := two_fdiv hd
  clear hd
  unfold op2 at hq
  dsimp only at hq
  have hd := hq
  clear hq
  split at hd
  · split at hd
    · rename_i hm
      cases hd
      rw [Bool.and_eq_true, decide_eq_true_eq, decide_eq_true_eq] at hm
      have e1 := h1.int
      have e2 := h2.int
      subst e1 e2
      exact op_fdiv pins s σ H _ _ v u Q I rx ry ⟨_, _, rfl, rfl, hm, fin_v a k (.int _)⟩
    · cases hd
  · cases hd
theorem o_mod : OpR X (binaryOp .Mod) (rO2 X.K A .mod) := by
  intro pins s σ H x y v u Q I rx ry ⟨B, G, lk, LA, σ0, e, s0, rs, c, a, pr, hd, k⟩
  obtain ⟨r1, r2, rfl, h1, h2⟩ := p2 pr
  obtain ⟨d, d', rfl, rfl, hq⟩ := two_mod hd
  clear hd
  unfold op2 at hq
  dsimp only at hq
  have hd := hq
  clear hq
  split at hd
  · split at hd
    · rename_i hm
      cases hd
      have e1 := h1.int
      have e2 := h2.int
      subst e1 e2
      exact op_mod pins s σ H _ _ v u Q I rx ry ⟨_, _, rfl, rfl, of_decide_eq_true hm, fin_v a k (.int _)⟩
    · cases hd
  · cases hd
theorem o_eq (hu : X.A.units + 64 < cLine) : OpR X (compareOp .Eq) (rO2 X.K A .eq) := by
  intro pins s σ H x y v u Q I rx ry ⟨B, G, lk, LA, σ0, e, s0, rs, c, a, pr, hd, k⟩
  obtain ⟨r1, r2, rfl, h1, h2⟩ := p2 pr
  obtain ⟨d, d', rfl, rfl, hq⟩ := two_eq hd
  clear hd
  unfold op2 at hq
  dsimp only at hq
  have hd := hq
  clear hq
  split at hd
  · rename_i hm
    cases hd
    rw [Bool.and_eq_true] at hm
    exact op_eqD hu pins s σ H _ _ v u Q I rx ry ⟨_, _, h1.dp a.sub, h2.dp a.sub, hm.1, hm.2, fin_v a k (.bl _)⟩
  · cases hd
theorem o_ne (hu : X.A.units + 64 < cLine) : OpR X (compareOp .NotEq) (rO2 X.K A .ne) := by
  intro pins s σ H x y v u Q I rx ry ⟨B, G, lk, LA, σ0, e, s0, rs, c, a, pr, hd, k⟩
  obtain ⟨r1, r2, rfl, h1, h2⟩ := p2 pr
  obtain ⟨d, d', rfl, rfl, hq⟩ := two_ne hd
  clear hd
  unfold op2 at hq
  dsimp only at hq
  have hd := hq
  clear hq
  split at hd
  · rename_i hm
    cases hd
    rw [Bool.and_eq_true] at hm
    exact op_neD hu pins s σ H _ _ v u Q I rx ry ⟨_, _, h1.dp a.sub, h2.dp a.sub, hm.1, hm.2, fin_v a k (.bl _)⟩
  · cases hd
theorem ord_int {o : Op} {f : Value → Value → Sem Value} {pr : Int → Int → Bool} (ho : isOrd o = true) (hop : ∀ d d', op2 o d d' = (match d, d' with | .int i, .int j => vb (cmpI o i j) | _, _ => none))
    (hc : ∀ i j, cmpI o i j = pr i j) (two : ∀ {r1 r2 : Rv} {c : Ct}, opD o [r1, r2] = some c → ∃ d d', r1 = .d d ∧ r2 = .d d' ∧ op2 o d d' = some c) (rule : OpR X f (rI0 fun i j => .bl (pr i j))) : OpR X f (rO2 X.K A o) := by
  intro pins s σ H x y v u Q I rx ry ⟨B, G, lk, LA, σ0, e, s0, rs, c, a, pr', hd, k⟩
  obtain ⟨r1, r2, rfl, h1, h2⟩ := p2 pr'
  obtain ⟨d, d', rfl, rfl, hq⟩ := two hd
  clear hd
  rw [hop] at hq
  have hd := hq
  clear hq
  split at hd
  · cases hd
    have e1 := h1.int
    have e2 := h2.int
    subst e1 e2
    rw [hc] at k
    exact rule pins s σ H _ _ v u Q I rx ry ⟨_, _, rfl, rfl, fin_v a k (.bl _)⟩
  · cases hd
theorem o_lt : OpR X (compareOp .Lt) (rO2 X.K A .lt) := ord_int (pr := fun i j => decide (i < j)) rfl (fun _ _ => rfl) (fun _ _ => rfl) two_lt op_lt
theorem o_le : OpR X (compareOp .LtE) (rO2 X.K A .le) := ord_int (pr := fun i j => decide (i ≤ j)) rfl (fun _ _ => rfl) (fun _ _ => rfl) two_le op_le
theorem o_gt : OpR X (compareOp .Gt) (rO2 X.K A .gt) := ord_int (pr := fun i j => decide (j < i)) rfl (fun _ _ => rfl) (fun _ _ => rfl) two_gt op_gt
theorem o_ge : OpR X (compareOp .GtE) (rO2 X.K A .ge) := ord_int (pr := fun i j => decide (j ≤ i)) rfl (fun _ _ => rfl) (fun _ _ => rfl) two_ge op_ge
end
end GW

namespace GW
open PySem PySem.Spec PyProof.Rows L2

section
variable {prog : Program} {w : World} {A : Around} {E : Value → Shared → Prop} {s : Shared}
theorem rev_adjust (n : Nat) : Builtin.Slice.sliceAdjust none none (-1) (n : Int) = ((n : Int) - 1, -1) := rfl
theorem rev_places (n : Nat) : Builtin.Slice.slicePlaces ((n : Int) - 1) (-1) (-1) = n := by
  unfold Builtin.Slice.slicePlaces
  rw [if_neg (by omega)]
  by_cases h : (n : Int) - 1 > -1
  · rw [if_pos h]
    have e : ((n : Int) - 1 - -1 - 1) / - -1 = (n : Int) - 1 := by
      rw [show (- -1 : Int) = 1 from rfl, Int.ediv_one]
      omega
    rw [e]
    omega
  · rw [if_neg h]
    omega
theorem rev_applied {sl : Addr} {t : Tok} {n : Nat} {Q : Int × Int × Nat → Shared → Prop} (hs : s.heap.IsSliceOf sl .none .none (.int (-1) t))
    (h : Q ((n : Int) - 1, -1, n) s) : wpAny (model prog w) A (Builtin.Slice.sliceApplied (.ref sl) (pure (n : Int))) Q E s := by
  obtain ⟨os, hos, hcs, hds⟩ := id hs
  unfold Builtin.Slice.sliceApplied Builtin.Slice.sliceFields
  refine wpAny_bind (wpAny_bind (wpAny_field hos hds (x := .none) rfl (wpAny_bind (wpAny_field hos hds (x := .none) rfl (wpAny_bind (wpAny_field hos hds (x := .int (-1) t) rfl (wpAny_pure ?_)))))))
  refine wpAny_bind (slicePart_int ?_)
  show wpAny _ _ (if ((-1 : Int) == 0) = true then _ else _) _ _ s
  rw [if_neg (by decide)]
  refine wpAny_bind (slicePart_none (wpAny_bind (slicePart_none (wpAny_bind (wpAny_pure ?_)))))
  show wpAny _ _ (match Builtin.Slice.sliceAdjust none none (-1) (n : Int) with | (lo, hi) => pure (lo, (-1 : Int), Builtin.Slice.slicePlaces lo hi (-1))) _ _ s
  rw [rev_adjust]
  show wpAny _ _ (pure ((n : Int) - 1, (-1 : Int), Builtin.Slice.slicePlaces ((n : Int) - 1) (-1) (-1))) _ _ s
  rw [rev_places]
  exact wpAny_pure h
theorem range_pick : ∀ (l : List Value) (f : Nat → Option Value), (∀ m, m < l.length → f m = l[m]?) → (List.range l.length).filterMap f = l
  | [], _, _ => rfl
  | x :: r, f, h => by
    have h0 : f 0 = some x := h 0 (Nat.succ_pos _)
    have ih := range_pick r (fun m => f (m + 1)) fun m hm => h (m + 1) (Nat.succ_lt_succ hm)
    rw [List.length_cons, List.range_succ_eq_map, List.filterMap_cons, h0, List.filterMap_map]
    show x :: (List.range r.length).filterMap (fun m => f (m + 1)) = x :: r
    rw [ih]
theorem rev_pick (xs : Array Value) : ((List.range xs.size).filterMap fun (m : Nat) => xs[(((xs.size : Int) - 1) + (m : Int) * (-1)).toNat]?).toArray = xs.toList.reverse.toArray := by
  have e : xs.size = xs.toList.reverse.length := by simp
  have k := range_pick xs.toList.reverse (fun (m : Nat) => xs[(((xs.size : Int) - 1) + (m : Int) * (-1)).toNat]?) fun m hm => by
    have hm' : m < xs.size := by simpa using hm
    have e1 : (((xs.size : Int) - 1) + (m : Int) * (-1)).toNat = xs.size - 1 - m := by omega
    show xs[(((xs.size : Int) - 1) + (m : Int) * (-1)).toNat]? = _
    rw [e1, List.getElem?_reverse (by simpa using hm')]
    simp
  rw [← e] at k
  rw [k]
theorem getItem_tuple_rev {t sl : Addr} {items : Array Value} {tk : Tok} {Q : Value → Shared → Prop} (ht : IsTup s.heap t items) (hs : s.heap.IsSliceOf sl .none .none (.int (-1) tk))
    (h : Q (.ref s.heap.objs.size) { s with heap := s.heap.push { cls := .type "tuple", data := .seq items.toList.reverse.toArray } }) (hsz : items.size ≤ sizeLine) :
    wpAny (model prog w) A (getItem (.ref t) (.ref sl)) Q E s := by
  have hok : sizeOk (.seq items.toList.reverse.toArray) := by
    show items.toList.reverse.toArray.size ≤ sizeLine
    rw [List.size_toArray, List.length_reverse, Array.length_toList]
    exact hsz
  obtain ⟨os, hos, hcs, hds⟩ := id hs
  have hTs : s.TypeIs (.ref sl) "slice" := ⟨os, hos, hcs⟩
  unfold getItem
  try with_reducible refine wpAny_holding ?_
  first | refine wpAny_bind (wpAny_pure ?_) | skip
  refine wpAny_bind (wpAny_sequenceKey ht.typeIs (by decide) ?_)
  refine wpAny_bind (wpAny_callSpecial?_slot (name := Str.ofString "__getitem__") ht.typeIs PyProof.Rows.slot_tuple_getitem
    (wpAny_call_entry PyProof.Rows.slot_tuple_getitem ht.typeIs entry_tuple_getitem ?_ (args_tuple_getitem _ _)))
  show wpAny _ _ (Builtin.Tuple.tupleItemsOf (.ref t) >>= _) _ _ s
  refine wpAny_bind (tupleItemsOf_ ht ?_)
  refine wpAny_bind (wpAny_typeOf hTs ?_)
  rw [if_pos (by decide)]
  refine wpAny_bind (rev_applied hs ?_)
  show wpAny _ _ (if (((items.size : Int) - 1 == 0) && (-1 : Int) == 1 && items.size == items.size) = true then _ else _) _ _ s
  rw [if_neg (by rw [show ((-1 : Int) == 1) = false from rfl, Bool.and_false, Bool.false_and]; exact Bool.false_ne_true), rev_pick]
  first
    | exact wpAny_bind (m := Builtin.Tuple.tupleExact _) (wpAny_newObj_type (wpAny_pure ⟨_, rfl, wpAny_pure h⟩) hok)
    | exact wpAny_bind (m := Builtin.Tuple.tupleExact _) (wpAny_newObj_type (wpAny_bind (wpAny_pure (wpAny_pure ⟨_, rfl, wpAny_pure h⟩))) hok)
    | exact wpAny_bind (wpAny_bind (m := Builtin.Tuple.tupleExact _) (wpAny_newObj_type (wpAny_pure (wpAny_pure ⟨_, rfl, wpAny_pure h⟩)) hok))
    | exact wpAny_bind (wpAny_bind (m := Builtin.Tuple.tupleExact _) (wpAny_newObj_type (wpAny_pure ⟨_, rfl, wpAny_pure h⟩) hok))
end
end GW

namespace GW
open PySem PySem.Spec PyProof.Rows L2

section
variable {K : PySem.W.Frag} {G H : Hp}
theorem flatKey_v {d : D} {k : Ky} {v : V} (h : RvOk K G H (.d d) v) (e : flatKey d = some k) : v = kV k := by
  cases d with
  | int i =>
    cases e
    exact h.int
  | str x =>
    cases e
    cases h.frozen (fun _ z => by cases z)
    rfl
  | none => cases e
  | bool _ => cases e
  | list _ => cases e
  | tuple _ => cases e
  | dict _ => cases e
theorem kv_look {κ : Type} [DecidableEq κ] {ks : List (κ × V)} {kvs : List (κ × D)} (r : KvOk K G ks kvs) (k : κ) :
    (valV ks k = none ∧ lookK kvs k = none) ∨ ∃ v d, valV ks k = some v ∧ lookK kvs k = some d ∧ Dq K G v d := by
  unfold KvOk at r
  induction r with
  | nil => exact Or.inl ⟨rfl, rfl⟩
  | @cons p q ps qs h t ih =>
    obtain ⟨h1, h2⟩ := h
    by_cases e : p.1 = k
    · refine Or.inr ⟨p.2, q.2, valV_pos e, ?_, h2⟩
      unfold lookK
      rw [List.find?_cons, decide_eq_true (h1 ▸ e)]
      rfl
    · have e2 : lookK (q :: qs) k = lookK qs k := by
        unfold lookK
        rw [List.find?_cons, decide_eq_false (h1 ▸ e)]
      rw [valV_neg e, e2]
      exact ih
theorem kv_some {κ : Type} [DecidableEq κ] {ks : List (κ × V)} {kvs : List (κ × D)} (r : KvOk K G ks kvs) (k : κ) : (valV ks k).isSome = (lookK kvs k).isSome := by
  rcases kv_look r k with ⟨h1, h2⟩ | ⟨v, d, h1, h2, _⟩
  · rw [h1, h2]; rfl
  · rw [h1, h2]; rfl
theorem kv_len {κ : Type} {ks : List (κ × V)} {kvs : List (κ × D)} (r : KvOk K G ks kvs) : ks.length = kvs.length := Paired.length r
end

section
variable {X : Cx} {A : Sa}
theorem in_form {o : Op} {f : Bool → Bool} {r1 r2 : Rv} {c : Ct} (ho : (o = .inn ∧ f = id) ∨ (o = .nin ∧ f = Bool.not)) (h : opD o [r1, r2] = some c) :
    ∃ x b, r1 = .d x ∧ innD x r2 = some b ∧ c = .v (.bool (f b)) := by
  rcases ho with ⟨rfl, rfl⟩ | ⟨rfl, rfl⟩
  · cases r1 with
    | d x =>
      cases r2 with
      | d y =>
        have h' : (innD x (.d y)).bind vb = some c := h
        cases e : innD x (.d y) with
        | none => rw [e] at h'; cases h'
        | some b => rw [e] at h'; cases h'; exact ⟨x, b, rfl, e, rfl⟩
      | k kvs =>
        have h' : (innD x (.k kvs)).bind vb = some c := h
        cases e : innD x (.k kvs) with
        | none => rw [e] at h'; cases h'
        | some b => rw [e] at h'; cases h'; exact ⟨x, b, rfl, e, rfl⟩
      | t kvs =>
        have h' : (innD x (.t kvs)).bind vb = some c := h
        cases h'
    | k _ => cases r2 <;> cases h
    | t _ => cases r2 <;> cases h
  · cases r1 with
    | d x =>
      cases r2 with
      | d y =>
        have h' : (innD x (.d y)).bind (fun b => vb (!b)) = some c := h
        cases e : innD x (.d y) with
        | none => rw [e] at h'; cases h'
        | some b => rw [e] at h'; cases h'; exact ⟨x, b, rfl, e, rfl⟩
      | k kvs =>
        have h' : (innD x (.k kvs)).bind (fun b => vb (!b)) = some c := h
        cases e : innD x (.k kvs) with
        | none => rw [e] at h'; cases h'
        | some b => rw [e] at h'; cases h'; exact ⟨x, b, rfl, e, rfl⟩
      | t kvs =>
        have h' : (innD x (.t kvs)).bind (fun b => vb (!b)) = some c := h
        cases h'
    | k _ => cases r2 <;> cases h
    | t _ => cases r2 <;> cases h
theorem inSeq_form {x y : D} {b : Bool} (h : inSeq x y = some b) : ∃ ds, (y = .list ds ∨ y = .tuple ds) ∧ SeqAt.shaped x = true ∧ SeqAt.shaped y = true ∧ b = isIn x ds := by
  unfold inSeq at h
  split at h
  · split at h
    · rename_i hm
      cases h
      rw [Bool.and_eq_true] at hm
      exact ⟨_, Or.inl rfl, hm.1, hm.2, rfl⟩
    · cases h
  · split at h
    · rename_i hm
      cases h
      rw [Bool.and_eq_true] at hm
      exact ⟨_, Or.inr rfl, hm.1, hm.2, rfl⟩
    · cases h
  · cases h
theorem rd_dget {K : PySem.W.Frag} {G H : Hp} {p : Addr} {ks : List (Ky × V)} {k : Ky} (h : Rd H p (.dK ks)) : DGet H p (kV k) (valV ks k) := Or.inl ⟨ks, k, h, rfl, rfl⟩
theorem o_inn (hu : X.A.units + 65 < cLine) : OpR X (compareOp .In) (rO2 X.K A .inn) := by
  intro pins s σ H x y v u Q I rx ry ⟨B, G, lk, LA, σ0, e, s0, rs, c, a, pr, hd, k⟩
  obtain ⟨r1, r2, rfl, h1, h2⟩ := p2 pr
  obtain ⟨d, b, rfl, hi, rfl⟩ := in_form (Or.inl ⟨rfl, rfl⟩) hd
  clear hd
  have fin : EP X pins σ Q (.bool b) s := ⟨.bl b, H, I, rfl, fin_v a k (.bl _)⟩
  cases r2 with
  | d y' =>
    obtain ⟨ds, hy, sx, sy, rfl⟩ := inSeq_form hi
    obtain ⟨as, q1⟩ := Dp.reads I d x v (h1.dp a.sub) rx
    obtain ⟨bs, q2⟩ := Dp.reads I y' y u (h2.dp a.sub) ry
    rcases hy with rfl | rfl
    · exact SeqAt.in_list_reads q2 q1 (SeqAt.canLay_of_shaped sy) (SeqAt.canLay_of_shaped sx) (room_in_shaped sx hu) fin
    · exact SeqAt.in_tuple_reads q2 q1 (SeqAt.canLay_of_shaped sy) (SeqAt.canLay_of_shaped sx) (room_in_shaped sx hu) fin
  | k kvs =>
    obtain ⟨p, ks, rfl, rd, kv⟩ := h2
    have hi' : (flatKey d).map (fun k => (lookK kvs k).isSome) = some b := hi
    cases ek : flatKey d with
    | none => rw [ek] at hi'; cases hi'
    | some ky =>
      rw [ek] at hi'
      have eb : (lookK kvs ky).isSome = b := Option.some.inj hi'
      have ex := flatKey_v h1 ek
      subst ex
      cases ry
      have g : DGet H p (kV ky) (valV ks ky) := Or.inl ⟨ks, ky, rd, rfl, rfl⟩
      refine d_in (by omega) I g rx fun s' I' => ?_
      rw [kv_some kv ky, eb]
      exact ⟨.bl b, H, I', rfl, fin_v a k (.bl _)⟩
  | t kvs => cases hi
theorem o_nin (hu : X.A.units + 65 < cLine) : OpR X (compareOp .NotIn) (rO2 X.K A .nin) := by
  intro pins s σ H x y v u Q I rx ry ⟨B, G, lk, LA, σ0, e, s0, rs, c, a, pr, hd, k⟩
  obtain ⟨r1, r2, rfl, h1, h2⟩ := p2 pr
  obtain ⟨d, b, rfl, hi, rfl⟩ := in_form (Or.inr ⟨rfl, rfl⟩) hd
  clear hd
  have fin : EP X pins σ Q (.bool (!b)) s := ⟨.bl (!b), H, I, rfl, fin_v a k (.bl _)⟩
  cases r2 with
  | d y' =>
    obtain ⟨ds, hy, sx, sy, rfl⟩ := inSeq_form hi
    obtain ⟨as, q1⟩ := Dp.reads I d x v (h1.dp a.sub) rx
    obtain ⟨bs, q2⟩ := Dp.reads I y' y u (h2.dp a.sub) ry
    rcases hy with rfl | rfl
    · exact SeqAt.notIn_list_reads q2 q1 (SeqAt.canLay_of_shaped sy) (SeqAt.canLay_of_shaped sx) (room_in_shaped sx hu) fin
    · exact SeqAt.notIn_tuple_reads q2 q1 (SeqAt.canLay_of_shaped sy) (SeqAt.canLay_of_shaped sx) (room_in_shaped sx hu) fin
  | k kvs =>
    obtain ⟨p, ks, rfl, rd, kv⟩ := h2
    have hi' : (flatKey d).map (fun k => (lookK kvs k).isSome) = some b := hi
    cases ek : flatKey d with
    | none => rw [ek] at hi'; cases hi'
    | some ky =>
      rw [ek] at hi'
      have eb : (lookK kvs ky).isSome = b := Option.some.inj hi'
      have ex := flatKey_v h1 ek
      subst ex
      cases ry
      have g : DGet H p (kV ky) (valV ks ky) := Or.inl ⟨ks, ky, rd, rfl, rfl⟩
      refine d_notIn (by omega) I g rx fun s' I' => ?_
      rw [kv_some kv ky, eb]
      exact ⟨.bl (!b), H, I', rfl, fin_v a k (.bl _)⟩
  | t kvs => cases hi

theorem atI_dq {K : PySem.W.Frag} {G : Hp} {ds : List D} {vs : List V} {i : Int} {d : D} (r : DqA K G vs ds) (h : L2.atI ds i = some d) : ∃ v, L2.atI vs i = some v ∧ Dq K G v d := by
  unfold L2.atI at h ⊢
  rw [dpA_len r]
  cases e : ixN ds.length i with
  | none => rw [e] at h; cases h
  | some j =>
    rw [e] at h
    exact dpA_get r h
theorem ix_form {r1 r2 : Rv} {c : Ct} (h : opD .ix [r1, r2] = some c) : ∃ y, r2 = .d y ∧ ixD r1 y = some c := by
  cases r2 with
  | d y => exact ⟨y, rfl, by cases r1 <;> exact h⟩
  | k _ => cases r1 <;> cases h
  | t _ => cases r1 <;> cases h
theorem o_ix (hu : X.A.units + 1 < cLine) : IxR X (rO2 X.K A .ix) := by
  intro value slice pins s σ H x y v u Q I rx ry ⟨B, G, lk, LA, σ0, e, s0, rs, c, a, pr, hd, k⟩ hs
  obtain ⟨r1, r2, rfl, h1, h2⟩ := p2 pr
  obtain ⟨y', rfl, hi⟩ := ix_form hd
  clear hd
  unfold ixD at hi
  split at hi
  · rename_i ds i
    obtain ⟨d, hd, rfl⟩ := Option.map_eq_some_iff.mp hi
    obtain ⟨p, vs, rfl, t1, q1⟩ := h1.list a.sub
    obtain ⟨z, hz, rz⟩ := atI_dq q1 hd
    have ey := h2.int
    subst ey
    exact ix_list value slice pins s σ H _ _ v u Q I rx ry ⟨_, _, _, _, rfl, rfl, SqL.of t1, hz, fin_v a k rz⟩ hs
  · rename_i ds i
    obtain ⟨d, hd, rfl⟩ := Option.map_eq_some_iff.mp hi
    obtain ⟨p, o, vs, rfl, n, t1, g1, q1⟩ := h1.tup a.sub
    obtain ⟨z, hz, rz⟩ := atI_dq q1 hd
    have ey := h2.int
    subst ey
    exact ix_tup value slice pins s σ H _ _ v u Q I rx ry ⟨_, _, _, _, rfl, rfl, sqT_frz t1, hz, fin_v a k rz⟩ hs
  · rename_i kvs
    cases ek : flatKey y' with
    | none => rw [ek] at hi; cases hi
    | some ky =>
      rw [ek] at hi
      obtain ⟨z, hz, rfl⟩ := Option.map_eq_some_iff.mp hi
      obtain ⟨p, ks, rfl, rd, kv⟩ := h1
      have ex := flatKey_v h2 ek
      subst ex
      cases rx
      rcases kv_look kv ky with ⟨_, no⟩ | ⟨w, d', e1, e2, rw'⟩
      · rw [hz] at no; cases no
      · rw [hz] at e2
        cases e2
        have g : DGet H p (kV ky) (some w) := Or.inl ⟨ks, ky, rd, rfl, e1.symm⟩
        refine tail_any (dict_typeIs I g) PySem.F.slot_dict_getitem.lookup ?_ hs
        exact d_getItem hu I g ry fun w' s' I' r' => ⟨w, H, I', r', fin_v a k rw'⟩
  · cases hi

def rS (K : PySem.W.Frag) (A : Sa) : V → Option Int → Option Int → Hp → VK → Prop := fun x lo hi H Q =>
  ∃ B G lk LA σ e s d c, AOk K A B G H lk LA σ e s ∧ RvOk K G H (.d d) x ∧ sliceD d lo hi = some c ∧ Fin K A B G lk LA σ e s c Q
theorem s_slice : SlR X (rS X.K A) := by
  intro pins s σ H x v vl vu lo hi sl Q I rx hs pl pu ⟨B, G, lk, LA, σ0, e, s0, d, c, a, h1, hd, k⟩
  unfold sliceD at hd
  split at hd
  · rename_i ds
    cases hd
    obtain ⟨p, vs, rfl, t1, q1⟩ := h1.list a.sub
    exact sl_list pins s σ H _ v vl vu lo hi sl Q I rx hs pl pu ⟨p, vs, rfl, SqL.of t1, fun q hq => fin_l a k (dpA_cut lo hi q1) hq⟩
  · rename_i ds
    cases hd
    obtain ⟨p, o, vs, rfl, n, t1, g1, q1⟩ := h1.tup a.sub
    cases rx
    obtain ⟨its, r, ht, hz⟩ := I.tuple (sqT_frz t1)
    have hlen : its.toArray.size = vs.length := by rw [List.size_toArray]; exact r.length.symm
    refine ⟨"tuple", _, PyProof.Rows.slot_tuple_getitem.lookup, ht.typeIs, ?_⟩
    by_cases hw : HT.sIx vs.length 0 lo = 0 ∧ HT.sIx vs.length vs.length hi = vs.length
    · have ec : cutL ds lo hi = ds := by
        have e1 : ds.length = vs.length := (dpA_len q1).symm
        unfold cutL
        rw [e1, hw.1, hw.2, List.drop_zero, Nat.sub_zero, ← e1, List.take_length]
      rw [ec] at k
      exact getItem_tuple_whole ht hs pl pu (by rw [hlen]; exact hw) ⟨.ref p, H, I, rfl, fin_v a k (.tup n g1 q1)⟩
    · refine HT.getItem_tuple_cut ht hs pl pu (by rw [hlen]; exact hw) ?_ (by rw [hlen]; exact hz)
      rw [hlen]
      have r' := (r.drop (HT.sIx vs.length 0 lo)).take (HT.sIx vs.length vs.length hi - HT.sIx vs.length 0 lo)
      refine ⟨.ref s.heap.objs.size, _, I.laid (t' := s.toks) (o := .frz (tupO ((its.drop (HT.sIx vs.length 0 lo)).take (HT.sIx vs.length vs.length hi - HT.sIx vs.length 0 lo))) (.tup (cutV vs lo hi))) (fun b ob q => Heap.get?_push_of_some _ q) (Nat.le_refl _) ?_, rfl, fin_t a k (dpA_cut lo hi q1) rfl (I.hok.fresh (Nat.le_refl _))⟩
      exact tup_ok r' (Nat.le_trans (cutV_length vs lo hi) hz) (Heap.get?_push_size _ rfl)
  · cases hd
end
end GW

namespace GW
open PySem PySem.Spec PyProof.Rows L2

theorem textFrom_le : ∀ (ts : List Str) (k : Nat) (acc : Str), (textFrom k acc ts).length ≤ acc.length + piled ts
  | [], k, acc => by show acc.length ≤ _; rw [piled_nil]; omega
  | t :: r, k, acc => by
    have ih := textFrom_le r (k + 1) (acc ++ (if k > 0 then ", " else "" : String) ++ t)
    have e2 : ((", " : String) : Str).length = 2 := rfl
    have e0 : (("" : String) : Str).length = 0 := rfl
    have h1 : (acc ++ (if k > 0 then ", " else "" : String) ++ t).length ≤ acc.length + 2 + t.length := by
      rw [strLen_append, strLen_append]
      by_cases h : k > 0
      · rw [if_pos h, e2]; omega
      · rw [if_neg h, e0]; omega
    rw [piled_cons]
    show (textFrom (k + 1) (acc ++ (if k > 0 then ", " else "" : String) ++ t) r).length ≤ _
    omega
theorem listText_le (ts : List Str) : (listText ts).length ≤ piled ts + 2 := by
  have e1 : (("[" : String) : Str).length = 1 := rfl
  have e2 : (("]" : String) : Str).length = 1 := rfl
  have := textFrom_le ts 0 "["
  unfold listText
  rw [strLen_append]
  omega
theorem int_text_le (i : Int) : ((toString i : String) : Str).length ≤ intRoom i := by
  have key : ∀ n : Nat, (Nat.repr n).length ≤ n.log2 + 1 := fun n => nat_repr_length_le (Nat.succ_pos _) Nat.lt_log2_self
  have cps : ∀ x : String, (Str.ofString x).length = x.length := fun x => PySem.ofString_length x
  unfold intRoom
  cases i with
  | ofNat n =>
    have := key n
    show (Str.ofString (Nat.repr n)).length ≤ n.log2 + 3
    rw [cps]; omega
  | negSucc n =>
    have := key (n + 1)
    show (Str.ofString ("-" ++ Nat.repr (n + 1))).length ≤ (n + 1).log2 + 3
    rw [cps, String.length_append]
    have e : ("-" : String).length = 1 := rfl
    omega
mutual
theorem shown_le : ∀ (d : D), d.canLay0 = true → d.shown.length ≤ room d
  | .none, _ => by decide +kernel
  | .bool b, _ => by cases b <;> decide +kernel
  | .int i, _ => by
    simp only [PyData.shown, room]
    exact int_text_le i
  | .str x, h => by
    simp only [PyData.shown, room]
    have h' : PyData.strOk x = true := by simpa [PyData.canLay0] using h
    refine StrLaws.reprText_len x fun c hc => ?_
    have h2 : (x.cps.all (· < 0x110000)) = true := h'
    rw [← Array.all_toList, List.all_eq_true] at h2
    have := of_decide_eq_true (h2 c hc)
    omega
  | .list xs, h => by
    simp only [PyData.shown, room]
    have h1 := shownAll_le xs (by simpa [PyData.canLay0] using h)
    have h2 := listText_le (PyData.shownAll xs)
    omega
  | .tuple xs, h => by
    simp only [PyData.shown, room]
    have h1 := shownAll_le xs (by simpa [PyData.canLay0] using h)
    have h2 := fmt_text (PyData.shownAll xs)
    omega
  | .dict _, h => by simp [PyData.canLay0] at h
theorem shownAll_le : ∀ (ds : List D), PyData.canLayAll0 ds = true → piled (PyData.shownAll ds) ≤ roomAll ds
  | [], _ => by simp [PyData.shownAll, piled, roomAll]
  | d :: ds, h => by
    have h' : (d.canLay0 && PyData.canLayAll0 ds) = true := by simpa [PyData.canLayAll0] using h
    rw [Bool.and_eq_true] at h'
    have h1 := shown_le d h'.1
    have h2 := shownAll_le ds h'.2
    simp only [PyData.shownAll, roomAll, piled_cons]
    omega
end

section
variable {X : Cx} {A : Sa}
theorem one_form {o : Op} {r : Rv} {c : Ct} (h : opD o [r] = some c) (hd : ∀ x, opD o [.d x] = op1 o x) (hk : ∀ kvs, opD o [.k kvs] = none) (ht : ∀ kvs, opD o [.t kvs] = none) : ∃ x, r = .d x ∧ op1 o x = some c := by
  cases r with
  | d x => exact ⟨x, rfl, by rw [← hd]; exact h⟩
  | k _ => rw [hk] at h; cases h
  | t _ => rw [ht] at h; cases h
theorem vals_one {x : V} {us : List Value} (r : Vals [x] us) : ∃ u, us = [u] ∧ RelV x u := Vals.one r

theorem c_len : CallR X (.builtin "len") (fun xs H Q => ∃ x, xs = [x] ∧ rO X.K A .len [x] H Q) := by
  intro pins s σ H xs us Q I rx ⟨x, ex, B, G, lk, LA, σ0, e, s0, rs, c, a, pr, hd, k⟩
  subst ex
  obtain ⟨r, rfl, h1⟩ := p1 pr
  cases r with
  | d d =>
    have hd' : (lenD (.d d)).bind vi = some c := hd
    cases d with
    | list ds =>
      cases hd'
      obtain ⟨p, vs, rfl, t1, q1⟩ := h1.list a.sub
      have z := dpA_len q1
      exact call_len_seq pins s σ H _ us Q I rx ⟨p, vs, rfl, Or.inl (SqL.of t1), by rw [z]; exact fin_v a k (.int _)⟩
    | tuple ds =>
      cases hd'
      obtain ⟨p, o, vs, rfl, n, t1, g1, q1⟩ := h1.tup a.sub
      have z := dpA_len q1
      exact call_len_seq pins s σ H _ us Q I rx ⟨p, vs, rfl, Or.inr (sqT_frz t1), by rw [z]; exact fin_v a k (.int _)⟩
    | none => cases hd'
    | bool _ => cases hd'
    | int _ => cases hd'
    | str _ => cases hd'
    | dict _ => cases hd'
  | k kvs =>
    have hd' : vi kvs.length = some c := hd
    cases hd'
    obtain ⟨p, ks, rfl, rd, kv⟩ := h1
    obtain ⟨u, rfl, ru⟩ := Vals.one rx
    cases ru
    refine d_len I rd fun t s' I' => ?_
    rw [kv_len kv]
    exact ⟨.int kvs.length, H, I', ⟨t, rfl⟩, fin_v a k (.int _)⟩
  | t _ => cases hd
/-- one data argument -/
theorem call1 {f : Value} {o : Op} (hd : ∀ x, opD o [.d x] = op1 o x) (hk : ∀ kvs, opD o [.k kvs] = none) (ht : ∀ kvs, opD o [.t kvs] = none)
    (go : ∀ (pins : List (Addr × Obj)) (s : Shared) (σ : L2.St) (H : Hp) (x : V) (u : Value) (Q : VK) (B G : Hp) (lk : List Nat) (LA : Nat → Addr) (σ0 : L2.St) (e : Sl) (s0 : Src) (d : D) (c : Ct), Inv X pins σ H s → RelV x u →
      AOk X.K A B G H lk LA σ0 e s0 → RvOk X.K G H (.d d) x → op1 o d = some c → Fin X.K A B G lk LA σ0 e s0 c Q → wpAny (model X.prog X.w) X.A (call f [u]) (EP X pins σ Q) X.xe s) :
    CallR X f (fun xs H Q => ∃ x, xs = [x] ∧ rO X.K A o [x] H Q) := by
  intro pins s σ H xs us Q I rx ⟨x, ex, B, G, lk, LA, σ0, e, s0, rs, c, a, pr, hq, k⟩
  subst ex
  obtain ⟨r, rfl, h1⟩ := p1 pr
  obtain ⟨d, rfl, h⟩ := one_form hq hd hk ht
  obtain ⟨u, rfl, ru⟩ := Vals.one rx
  exact go pins s σ H x u Q B G lk LA σ0 e s0 d c I ru a h1 h k
theorem c_tuple : CallR X (.type "tuple") (fun xs H Q => ∃ x, xs = [x] ∧ rO X.K A .tuple [x] H Q) :=
  call1 (fun _ => rfl) (fun _ => rfl) (fun _ => rfl) fun pins s σ H x u Q B G lk LA σ0 e s0 d c I ru a h1 h k => by
    cases d with
    | list ds =>
      cases h
      obtain ⟨p, vs, rfl, t1, q1⟩ := h1.list a.sub
      cases ru
      obtain ⟨its, r', pl, hz⟩ := I.list (SqL.of t1)
      have hlen := r'.length
      refine call_tuple_list pl.isList (fun h' kp => ?_) (by simp only [List.size_toArray] <;> omega)
      have I1 : Inv X pins σ H { s with heap := h' } := I.kept (t' := s.toks) kp
      exact ⟨.ref h'.objs.size, _, I1.laid (t' := s.toks) (o := .frz (tupO its) (.tup vs)) (fun b o e => Heap.get?_push_of_some _ e) (Nat.le_refl _) (tup_ok r' hz (Heap.get?_push_size _ rfl)), rfl, fin_t a k q1 rfl (I1.hok.fresh (Nat.le_refl _))⟩
    | tuple ds =>
      cases h
      obtain ⟨p, o, vs, rfl, n, t1, g1, q1⟩ := h1.tup a.sub
      cases ru
      obtain ⟨its, r', pl, hz⟩ := I.tuple (sqT_frz t1)
      exact call_tuple_same pl ⟨.ref p, H, I, rfl, fin_v a k (.tup n g1 q1)⟩
    | none => cases h
    | bool _ => cases h
    | int _ => cases h
    | str _ => cases h
    | dict _ => cases h
theorem c_list : CallR X (.type "list") (fun xs H Q => ∃ x, xs = [x] ∧ rO X.K A .list [x] H Q) :=
  call1 (fun _ => rfl) (fun _ => rfl) (fun _ => rfl) fun pins s σ H x u Q B G lk LA σ0 e s0 d c I ru a h1 h k => by
    cases d with
    | list ds =>
      cases h
      obtain ⟨p, vs, rfl, t1, q1⟩ := h1.list a.sub
      exact call_list_of pins s σ H [.ref p] [u] Q I (.cons ru .nil) ⟨p, vs, rfl, Or.inl (SqL.of t1), fun l hl => fin_l a k q1 hl⟩
    | tuple ds =>
      cases h
      obtain ⟨p, o, vs, rfl, n, t1, g1, q1⟩ := h1.tup a.sub
      exact call_list_of pins s σ H [.ref p] [u] Q I (.cons ru .nil) ⟨p, vs, rfl, Or.inr (sqT_frz t1), fun l hl => fin_l a k q1 hl⟩
    | none => cases h
    | bool _ => cases h
    | int _ => cases h
    | str _ => cases h
    | dict _ => cases h
theorem c_int : CallR X (.type "int") (fun xs H Q => ∃ x, xs = [x] ∧ rO X.K A .int [x] H Q) :=
  call1 (fun _ => rfl) (fun _ => rfl) (fun _ => rfl) fun pins s σ H x u Q B G lk LA σ0 e s0 d c I ru a h1 h k => by
    cases d with
    | int i =>
      cases h
      have ex := h1.int
      subst ex
      exact call_int1 pins s σ H _ [u] Q I (.cons ru .nil) (Or.inl ⟨i, rfl, fin_v a k (.int _)⟩)
    | bool b =>
      cases h
      have ex := h1.bool
      subst ex
      exact call_int1 pins s σ H _ [u] Q I (.cons ru .nil) (Or.inr ⟨b, rfl, fin_v a k (.int _)⟩)
    | none => cases h
    | list _ => cases h
    | tuple _ => cases h
    | str _ => cases h
    | dict _ => cases h
theorem c_abs : CallR X (.builtin "abs") (fun xs H Q => ∃ x, xs = [x] ∧ rO X.K A .abs [x] H Q) :=
  call1 (fun _ => rfl) (fun _ => rfl) (fun _ => rfl) fun pins s σ H x u Q B G lk LA σ0 e s0 d c I ru a h1 h k => by
    cases d with
    | int i =>
      cases h
      have ex := h1.int
      subst ex
      exact call_abs pins s σ H _ [u] Q I (.cons ru .nil) ⟨i, rfl, fin_v a k (.int _)⟩
    | bool b => cases h
    | none => cases h
    | list _ => cases h
    | tuple _ => cases h
    | str _ => cases h
    | dict _ => cases h
theorem c_repr (hg : X.A.guards = some []) (hu : X.A.units + 66 < cLine) : CallR X (.builtin "repr") (fun xs H Q => ∃ x, xs = [x] ∧ rO X.K A .repr [x] H Q) :=
  call1 (fun _ => rfl) (fun _ => rfl) (fun _ => rfl) fun pins s σ H x u Q B G lk LA σ0 e s0 d c I ru a h1 h k => by
    have h' : (if canShow d then some (Ct.v (.str d.shown)) else none) = some c := h
    split at h'
    · rename_i hc
      cases h'
      unfold canShow at hc
      simp only [Bool.and_eq_true, Bool.not_eq_true'] at hc
      obtain ⟨⟨⟨hs, hd⟩, hl⟩, hf⟩ := hc
      obtain ⟨as, rd⟩ := Dp.reads I d x u (h1.dp a.sub) ru
      have l0 : d.canLay0 = true := SeqAt.canLay_of_shaped hl
      have hz : d.shown.length ≤ sizeLine := Nat.le_trans (shown_le d l0) (fits_le hf)
      have hdep : d.depth ≤ 64 := SeqAt.depth_of_shaped hl
      have fin : ∀ s' t, Inv X pins σ H s' → EP X pins σ Q (.str d.shown t) s' := fun s' t I' => ⟨.str d.shown, H, I', ⟨t, rfl⟩, fin_v a k (.str _)⟩
      cases rd with
      | none => exact PySem.P.repr_of_none (fin _ _ (I.tok _))
      | bool b => exact PySem.P.repr_of_bool (by cases b <;> exact fin _ _ (I.tok _))
      | int i t => exact PySem.P.repr_of_int (of_decide_eq_true hs) (fin _ _ (I.tok _))
      | str y t => exact PySem.P.repr_of_str (fin _ _ (I.tok _)) hz
      | list g1 g2 g3 g4 =>
        exact repr_of_reads' (Reads.list g1 g2 g3 g4) hs (fun z => absurd (hd ▸ z) Bool.false_ne_true) hg (by omega) (fun _ _ e => e) (fun h' t tk kp => fin _ t (I.kept kp)) hz
      | tuple g1 g2 g3 g4 =>
        exact repr_of_reads' (Reads.tuple g1 g2 g3 g4) hs (fun z => absurd (hd ▸ z) Bool.false_ne_true) hg (by omega) (fun _ _ e => e) (fun h' t tk kp => fin _ t (I.kept kp)) hz
      | dict _ _ _ _ _ => simp [PyData.hasDict] at hd
    · cases h'
theorem two_min {r1 r2 : Rv} {c : Ct} (h : opD .min2 [r1, r2] = some c) : ∃ d d', r1 = .d d ∧ r2 = .d d' ∧ op2 .min2 d d' = some c :=
  two_d h (fun _ _ => rfl) (fun _ r => by cases r <;> rfl) (fun _ r => by cases r <;> rfl) (fun _ _ => rfl) (fun _ _ => rfl)
theorem two_max {r1 r2 : Rv} {c : Ct} (h : opD .max2 [r1, r2] = some c) : ∃ d d', r1 = .d d ∧ r2 = .d d' ∧ op2 .max2 d d' = some c :=
  two_d h (fun _ _ => rfl) (fun _ r => by cases r <;> rfl) (fun _ r => by cases r <;> rfl) (fun _ _ => rfl) (fun _ _ => rfl)
theorem c_min2 (hc : X.calm = true) : CallR X (.builtin "min") (fun xs H Q => ∃ x y, xs = [x, y] ∧ rO X.K A .min2 [x, y] H Q) := by
  intro pins s σ H xs us Q I rx ⟨x, y, ex, B, G, lk, LA, σ0, e, s0, rs, c, a, pr, hq, k⟩
  subst ex
  obtain ⟨r1, r2, rfl, h1, h2⟩ := p2 pr
  obtain ⟨d, d', rfl, rfl, h⟩ := two_min hq
  clear hq
  unfold op2 at h
  dsimp only at h
  split at h
  · cases h
    have e1 := h1.int
    have e2 := h2.int
    subst e1 e2
    exact call_min2 hc pins s σ H _ us Q I rx ⟨_, _, rfl, fin_v a k (.int _)⟩
  · cases h
theorem c_max2 (hc : X.calm = true) : CallR X (.builtin "max") (fun xs H Q => ∃ x y, xs = [x, y] ∧ rO X.K A .max2 [x, y] H Q) := by
  intro pins s σ H xs us Q I rx ⟨x, y, ex, B, G, lk, LA, σ0, e, s0, rs, c, a, pr, hq, k⟩
  subst ex
  obtain ⟨r1, r2, rfl, h1, h2⟩ := p2 pr
  obtain ⟨d, d', rfl, rfl, h⟩ := two_max hq
  clear hq
  unfold op2 at h
  dsimp only at h
  split at h
  · cases h
    have e1 := h1.int
    have e2 := h2.int
    subst e1 e2
    exact call_max2 hc pins s σ H _ us Q I rx ⟨_, _, rfl, fin_v a k (.int _)⟩
  · cases h
end
end GW

namespace GW
open PySem PySem.Spec PyProof.Rows L2

/-- the world around a block: the source's place, the text's constants, the defs below -/
structure Wd where
  A : Sa
  gl : Nat → Option D
  calls : Nat → List Ga → Src → Option (Ct × Src)
  name : Nat → Option Str
  k : Nat

def evA (W : Wd) (e : IR) (lk : List Nat) (σ : Sl) (s : Src) : Option (Ar × Sl × Src) :=
  match e with
  | .lend i => (at_ σ i).map fun _ => (.sl i, σ, s)
  | e => (evE W.gl W.calls e lk σ s).bind fun (c, σ1, s1) => (frz c).map fun d => (.d d, σ1, s1)
theorem evAs_e (W : Wd) {a : IR} (nl : ∀ i, a ≠ .lend i) (r : IR) (lk : List Nat) (σ : Sl) (s : Src) :
    evAs W.gl W.calls (.cons a r) lk σ s = (evE W.gl W.calls a lk σ s).bind fun (c, σ1, s1) => (frz c).bind fun d => (evAs W.gl W.calls r lk σ1 s1).map fun (as, σ2, s2) => (.d d :: as, σ2, s2) := by
  cases a <;> first
    | rfl
    | exact absurd rfl (nl _)
theorem evA_e (W : Wd) {a : IR} (nl : ∀ i, a ≠ .lend i) (lk : List Nat) (σ : Sl) (s : Src) :
    evA W a lk σ s = (evE W.gl W.calls a lk σ s).bind fun (c, σ1, s1) => (frz c).map fun d => (.d d, σ1, s1) := by
  cases a <;> first
    | rfl
    | exact absurd rfl (nl _)
def notLend : IR → Bool
  | .lend _ => false
  | _ => true
theorem notLend_ne {a : IR} (h : notLend a = true) : ∀ i, a ≠ .lend i := fun i e => by
  rw [e] at h
  cases h
theorem evAs_cons (W : Wd) (a r : IR) (lk : List Nat) (σ : Sl) (s : Src) :
    evAs W.gl W.calls (.cons a r) lk σ s = (evA W a lk σ s).bind fun (x, σ1, s1) => (evAs W.gl W.calls r lk σ1 s1).map fun (as, σ2, s2) => (x :: as, σ2, s2) := by
  by_cases h : ∃ i, a = .lend i
  · obtain ⟨i, rfl⟩ := h
    show (at_ σ i).bind _ = ((at_ σ i).map _).bind _
    cases at_ σ i <;> rfl
  · have nl : ∀ i, a ≠ .lend i := fun i e => h ⟨i, e⟩
    rw [evAs_e W nl, evA_e W nl]
    cases evE W.gl W.calls a lk σ s with
    | none => rfl
    | some q =>
      obtain ⟨c, σ1, s1⟩ := q
      show (frz c).bind _ = ((frz c).map _).bind _
      cases frz c with
      | none => rfl
      | some d => rfl

section
variable (W : Wd) (K : PySem.W.Frag) (lk : List Nat)
/-- an argument, as it is met -/
def ArOk (K : PySem.W.Frag) (G : Hp) (σ : L2.St) : Ar → V → Prop
  | .d d, v => Dq K G v d
  | .sl i, v => σ[i]? = some (some v)
def tE (ir : IR) : TE := fun σ H Q => ∃ B G LA e s c e' s', AOk K W.A B G H lk LA σ e s ∧ evE W.gl W.calls ir lk e s = some (c, e', s') ∧
  ∀ v G' H', AOk K W.A B G' H' lk LA σ e' s' → Ext B G G' → COk K W.A B G' H' lk σ e' c v → Q v H'
def tA (ir : IR) : TE := fun σ H Q => ∃ B G LA e s r e' s', AOk K W.A B G H lk LA σ e s ∧ evA W ir lk e s = some (r, e', s') ∧
  ∀ v G' H', AOk K W.A B G' H' lk LA σ e' s' → Ext B G G' → ArOk K G' σ r v → Q v H'
def tT (ir : IR) : TT := fun σ H Q => ∃ B G LA e s b e' s', AOk K W.A B G H lk LA σ e s ∧ evT W.gl W.calls ir lk e s = some (b, e', s') ∧
  ∀ G' H', AOk K W.A B G' H' lk LA σ e' s' → Ext B G G' → Q b H'
def tAs (ir : IR) : TA := fun σ H Q => ∃ B G LA e s rs e' s', AOk K W.A B G H lk LA σ e s ∧ evAs W.gl W.calls ir lk e s = some (rs, e', s') ∧
  ∀ vs G' H', AOk K W.A B G' H' lk LA σ e' s' → Ext B G G' → Paired (ArOk K G' σ) rs vs → Q vs H'
def tDs (ir : IR) : TA := fun σ H Q => ∃ B G LA e s ds e' s', AOk K W.A B G H lk LA σ e s ∧ evDs W.gl W.calls ir lk e s = some (ds, e', s') ∧
  ∀ vs G' H', AOk K W.A B G' H' lk LA σ e' s' → Ext B G G' → DqA K G' vs ds → Q vs H'
end
section
variable {X : Cx} {e : Expr} {t t' : TE}
theorem pe_weak (h : PE X e t) (w : ∀ σ H Q, t' σ H Q → t σ H Q) : PE X e t' := ⟨fun pins s σ H Q I q => h.run pins s σ H Q I (w σ H Q q)⟩
theorem pt_weak {t t' : TT} (h : PT X e t) (w : ∀ σ H Q, t' σ H Q → t σ H Q) : PT X e t' := ⟨fun pins s σ H Q I q => h.run pins s σ H Q I (w σ H Q q)⟩
theorem pw_weak {t t' : TT} (h : PW X e t) (w : ∀ σ H Q, t' σ H Q → t σ H Q) : PW X e t' := ⟨fun wh pins s σ H Q I q => h.run wh pins s σ H Q I (w σ H Q q)⟩
theorem pa_weak {es : List Expr} {t t' : TA} (h : PA X es t) (w : ∀ σ H Q, t' σ H Q → t σ H Q) : PA X es t' := ⟨fun pos pins s σ H Q I q => h.run pos pins s σ H Q I (w σ H Q q)⟩
theorem ps_weak {st : Stmt} {t t' : TS} (h : PS X st t) (w : ∀ D σ H, t' D σ H → t D σ H) : PS X st t' := ⟨fun pins s σ H D I q => h.run pins s σ H D I (w D σ H q)⟩
theorem pss_weak {st : List Stmt} {t t' : TS} (h : PSs X st t) (w : ∀ D σ H, t' D σ H → t D σ H) : PSs X st t' := ⟨fun pins s σ H D I q => h.run pins s σ H D I (w D σ H q)⟩
theorem pi_weak {tg : Expr} {t t' : TI} (h : PI X tg e t) (w : ∀ σ H R, t' σ H R → t σ H R) : PI X tg e t' := ⟨fun pins s σ H R I q => h.run pins s σ H R I (w σ H R q)⟩
end

section
variable {W : Wd} {K : PySem.W.Frag} {lk : List Nat} {B G H G' : Hp} {LA : Nat → Addr} {σ : L2.St} {e : Sl} {s : Src}
theorem bind_some {α β : Type} {x : Option α} {f : α → Option β} {y : β} (h : x.bind f = some y) : ∃ a, x = some a ∧ f a = some y := Option.bind_eq_some_iff.mp h
theorem map_some {α β : Type} {x : Option α} {f : α → β} {y : β} (h : x.map f = some y) : ∃ a, x = some a ∧ f a = y := Option.map_eq_some_iff.mp h

/-- a value as an argument -/
theorem tE_to_tA {ir : IR} (nl : ∀ i, ir ≠ .lend i) {Q : VK} (h : tA W K lk ir σ H Q) : tE W K lk ir σ H Q := by
  obtain ⟨B, G, LA, e, s, r, e', s', a, ev, k⟩ := h
  have ev' : ((evE W.gl W.calls ir lk e s).bind fun (c, σ1, s1) => (frz c).map fun d => (Ar.d d, σ1, s1)) = some (r, e', s') := by
    unfold evA at ev
    split at ev
    · exact absurd rfl (nl _)
    · exact ev
  obtain ⟨⟨c, e1, s1⟩, h1, h2⟩ := bind_some ev'
  obtain ⟨d, h3, h4⟩ := map_some h2
  cases h4
  refine ⟨B, G, LA, e, s, c, e', s', a, h1, fun v G1 H1 a1 ext cok => ?_⟩
  obtain ⟨G2, a2, ext2, dq⟩ := a1.freeze cok h3
  exact k v G2 H1 a2 (ext.trans ext2) dq
/-- an argument when all are there -/
theorem ArOk.res {G0 : Hp} {r : Ar} {v : V} {x : Rv} (a : AOk K W.A B G H lk LA σ e s) (h : ArOk K G0 σ r v) (hg : Same G0 G) (hr : res1 e r = some x) : RvOk K G H x v := by
  cases r with
  | d d =>
    cases hr
    exact Or.inl (dp_same hg h)
  | sl i =>
    obtain ⟨c, hc, hv⟩ := bind_some (show (at_ e i).bind rvC = some x from hr)
    obtain ⟨v', e1, vc⟩ := a.slot i c hc
    have h' : σ[i]? = some (some v) := h
    rw [h'] at e1
    cases e1
    cases c with
    | v d => cases hv; exact Or.inl vc
    | l ds =>
      cases hv
      obtain ⟨p, xs, rfl, hp, q⟩ := vc
      exact Or.inr ⟨p, xs, ds, rfl, rfl, hp, q⟩
    | k kvs =>
      cases hv
      obtain ⟨p, ks, rfl, hp, q⟩ := vc
      exact ⟨p, ks, rfl, Or.inl hp, q⟩
    | t kvs =>
      cases hv
      obtain ⟨p, ks, rfl, hp, q⟩ := vc
      exact ⟨p, ks, rfl, Or.inl hp, q⟩
    | s => cases hv
theorem ArOk.same {G0 : Hp} {r : Ar} {v : V} (h : ArOk K G0 σ r v) (hg : Same G0 G) : ArOk K G σ r v := by
  cases r with
  | d d => exact dp_same hg h
  | sl i => exact h
theorem resolve_all {rs : List Ar} {vs : List V} (a : AOk K W.A B G H lk LA σ e s) (h : Paired (ArOk K G σ) rs vs) : ∀ {xs : List Rv}, resolve e rs = some xs → Paired (RvOk K G H) xs vs := by
  induction h with
  | nil => intro xs q; cases q; exact .nil
  | @cons r v rs' vs' h1 t ih =>
    intro xs q
    obtain ⟨x, hx, q2⟩ := bind_some (show (res1 e r).bind _ = some xs from q)
    obtain ⟨ys, hy, q3⟩ := map_some q2
    subst q3
    exact .cons (h1.res a (Same.refl G) hx) (ih hy)

/-- an operation behind its arguments -/
theorem tE_op {o : Op} {as : IR} {σ : L2.St} {H : Hp} {Q : VK} (h : tE W K lk (.op o as) σ H Q) : tAs W K lk as σ H fun vs H1 => rO K W.A o vs H1 Q := by
  obtain ⟨B, G, LA, e, s, c, e', s', a, ev, k⟩ := h
  obtain ⟨⟨rs, e1, s1⟩, h1, h2⟩ := bind_some (show (evAs W.gl W.calls as lk e s).bind _ = some (c, e', s') from ev)
  obtain ⟨xs, h3, h4⟩ := bind_some h2
  obtain ⟨c', h5, h6⟩ := map_some h4
  cases h6
  refine ⟨B, G, LA, e, s, rs, e', s', a, h1, fun vs G1 H1 a1 ext pr => ?_⟩
  exact ⟨B, G1, lk, LA, σ, e', s', xs, c, a1, resolve_all a1 pr h3, h5, fun v G2 H2 a2 ext2 cok => k v G2 H2 a2 (ext.trans ext2) cok⟩
theorem tAs_nil {σ : L2.St} {H : Hp} {Q : List V → Hp → Prop} (h : tAs W K lk .nil σ H Q) : Q [] H := by
  obtain ⟨B, G, LA, e, s, rs, e', s', a, ev, k⟩ := h
  cases ev
  exact k [] G H a Ext.refl .nil
theorem tAs_cons {ia ir : IR} {σ : L2.St} {H : Hp} {Q : List V → Hp → Prop} (h : tAs W K lk (.cons ia ir) σ H Q) : tA W K lk ia σ H fun v H1 => tAs W K lk ir σ H1 fun vs H2 => Q (v :: vs) H2 := by
  obtain ⟨B, G, LA, e, s, rs, e', s', a, ev, k⟩ := h
  rw [evAs_cons] at ev
  obtain ⟨⟨x, e1, s1⟩, h1, h2⟩ := bind_some ev
  obtain ⟨⟨ys, e2, s2⟩, h3, h4⟩ := map_some h2
  cases h4
  refine ⟨B, G, LA, e, s, x, e1, s1, a, h1, fun v G1 H1 a1 ext1 r1 => ?_⟩
  exact ⟨B, G1, LA, e1, s1, ys, e', s', a1, h3, fun vs G2 H2 a2 ext2 pr => k (v :: vs) G2 H2 a2 (ext1.trans ext2) (.cons (r1.same ext2.1) pr)⟩
theorem tAs_two {ia ib : IR} {σ : L2.St} {H : Hp} {R : V → V → Hp → Prop} {Q : List V → Hp → Prop} (h : tAs W K lk (.cons ia (.cons ib .nil)) σ H Q) (hR : ∀ x y H, Q [x, y] H → R x y H) :
    tA W K lk ia σ H fun x H1 => tA W K lk ib σ H1 fun y H2 => R x y H2 := by
  obtain ⟨B, G, LA, e, s, r, e', s', a, ev, k⟩ := tAs_cons h
  refine ⟨B, G, LA, e, s, r, e', s', a, ev, fun v G1 H1 a1 ext1 r1 => ?_⟩
  obtain ⟨B2, G2, LA2, e2, s2, r2, e2', s2', a2, ev2, k2⟩ := tAs_cons (k v G1 H1 a1 ext1 r1)
  exact ⟨B2, G2, LA2, e2, s2, r2, e2', s2', a2, ev2, fun u G3 H3 a3 ext3 r3 => hR _ _ _ (tAs_nil (k2 u G3 H3 a3 ext3 r3))⟩
theorem tAs_one {ia : IR} {σ : L2.St} {H : Hp} {R : V → Hp → Prop} {Q : List V → Hp → Prop} (h : tAs W K lk (.cons ia .nil) σ H Q) (hR : ∀ x H, Q [x] H → R x H) : tA W K lk ia σ H R := by
  obtain ⟨B, G, LA, e, s, r, e', s', a, ev, k⟩ := tAs_cons h
  exact ⟨B, G, LA, e, s, r, e', s', a, ev, fun v G1 H1 a1 ext1 r1 => hR _ _ (tAs_nil (k v G1 H1 a1 ext1 r1))⟩
end
end GW

namespace GW
open PySem PySem.Spec PyProof.Rows L2

def GaOk (K : PySem.W.Frag) (A : Sa) (G H : Hp) : Ga → V → Prop
  | .v d, v => Dq K G v d
  | .l ds, v => ∃ p xs, v = .ref p ∧ H p = some (.lst xs) ∧ DqA K G xs ds ∧ p ≠ A.d ∧ p ≠ A.c
  | .k kvs, v => ∃ p ks, v = .ref p ∧ H p = some (.dK ks) ∧ KvOk K G ks kvs ∧ p ≠ A.d ∧ p ≠ A.c
  | .t kvs, v => ∃ p ks, v = .ref p ∧ H p = some (.dT ks) ∧ KvOk K G ks kvs ∧ p ≠ A.d ∧ p ≠ A.c
  | .s, v => v = .ref A.d
def RetOk (K : PySem.W.Frag) (A : Sa) (B G H : Hp) (c : Ct) (v : V) : Prop :=
  VC K A G H c v ∧ (isOwn c = true → ∃ p, v = .ref p ∧ B p = none ∧ G p = none ∧ p ≠ A.d ∧ p ≠ A.c)
/-- what the f-th def promises -/
def spG (K : PySem.W.Frag) (A : Sa) (calls : Nat → List Ga → Src → Option (Ct × Src)) (f : Nat) : Sp := fun vs H Q _ =>
  ∃ G gs s c s', Same G H ∧ SrcOk A H s ∧ G A.d = none ∧ G A.c = none ∧ Paired (GaOk K A G H) gs vs ∧ calls f gs s = some (c, s') ∧
    ∀ v G' H', Same G' H' → Ext H G G' → Frm A H H' → SrcOk A H' s' → G' A.d = none → G' A.c = none → RetOk K A H G' H' c v → Q v H'

section
variable {K : PySem.W.Frag} {A : Sa} {B G H G' H' : Hp} {lk : List Nat} {LA : Nat → Addr} {σ : L2.St} {e : Sl} {s s' : Src}
/-- behind a call -/
theorem AOk.after (a : AOk K A B G H lk LA σ e s) (hs : Same G' H') (ext : Ext H G G') (fr : Frm A H H') (so : SrcOk A H' s') (nd : G' A.d = none) (nc : G' A.c = none) : AOk K A B G' H' lk LA σ e s' := by
  refine { sub := hs, frm := fun b u q m1 m2 => fr b u (a.frm b u q m1 m2) m1 m2, src := so, ngd := nd, ngc := nc, len := a.len, slot := fun i c h => ?_, own := fun i c p h ow e1 => ?_, lkb := a.lkb, dis := a.dis }
  · obtain ⟨v, e1, r⟩ := a.slot i c h
    refine ⟨v, e1, r.to ext.1 fun ow p o ev hp => ?_⟩
    subst ev
    obtain ⟨n1, n2, _⟩ := a.own i c p h ow e1
    exact fr p o hp n1 n2
  · obtain ⟨n1, n2, n3, n4⟩ := a.own i c p h ow e1
    refine ⟨n1, n2, n3, fun hi => ⟨(n4 hi).1, ?_⟩⟩
    obtain ⟨v, e2, r⟩ := a.slot i c h
    obtain ⟨p', u, e3, q, _⟩ := r.own ow
    rw [e1] at e2
    cases e2
    cases e3
    cases z : G' p with
    | none => rfl
    | some w =>
      rcases ext.2 p (some_of z) with y | y
      · exact absurd (n4 hi).2 y
      · rw [q] at y; cases y
theorem AOk.extB (a : AOk K A B G H lk LA σ e s) (ext : Ext H G G') : Ext B G G' := ⟨ext.1, fun b q => (ext.2 b q).imp id fun z => a.bnone z⟩
theorem RetOk.cok {c : Ct} {v : V} (a : AOk K A B G H lk LA σ e s) (r : RetOk K A H G' H' c v) : COk K A B G' H' lk σ e c v := by
  refine ⟨r.1, fun ow => ?_⟩
  obtain ⟨p, e1, hn, hg, n1, n2⟩ := r.2 ow
  refine ⟨p, e1, a.bnone hn, hg, n1, n2, fun i c' h1 h2 h3 h4 => ?_⟩
  obtain ⟨v', e2, r'⟩ := a.slot i c' h1
  obtain ⟨p', u, e3, q, _⟩ := r'.own h2
  rw [h4] at e2
  cases e2
  cases e3
  rw [hn] at q
  cases q
theorem set_same {σ : L2.St} {i : Nat} {x : Option V} (h : σ[i]? = some x) : σ.set i x = σ := by
  apply List.ext_getElem?
  intro j
  by_cases e : i = j
  · subst e
    rw [h, List.getElem?_set_self (List.getElem?_eq_some_iff.mp h).1]
  · rw [List.getElem?_set_ne e]
/-- a slot's own list is frozen where it is read -/
theorem AOk.freezeAt {i : Nat} {ds : List D} (a : AOk K A B G H lk LA σ e s) (h : at_ e i = some (.l ds)) (hi : i ∉ lk) :
    ∃ v G', σ[i]? = some (some v) ∧ AOk K A B G' H lk LA σ (e.set i (some (.v (.list ds)))) s ∧ Ext B G G' ∧ Dq K G' v (.list ds) := by
  obtain ⟨v, e1, r⟩ := a.slot i _ h
  obtain ⟨G', a1, ext, dq⟩ := (a.drop (i := i)).freeze (a.take h hi e1) (d := .list ds) rfl
  have hl : i < (e.set i none).length := by rw [List.length_set]; exact at_lt h
  have a2 := a1.put (c := .v (.list ds)) (v := v) (COk.v dq) hi hl
  rw [set_same e1, List.set_set] at a2
  exact ⟨v, G', e1, a2, ext, dq⟩
end

section
variable {X : Cx} {W : Wd} {lk : List Nat}
def visB (sc : Scope) (x : Str) : Bool := match sc.names.lookup x with
  | some .local => true
  | some .cell => true
  | some .free => true
  | _ => false
theorem visB_vis {sc : Scope} {x : Str} (h : visB sc x = true) : Vis sc x := by
  unfold visB at h
  split at h
  · rename_i e; exact Or.inl e
  · rename_i e; exact Or.inr (Or.inl e)
  · rename_i e; exact Or.inr (Or.inr e)
  · cases h
def okName (x : Str) : Bool := !(x == ("__debug__" : Str)) && !(x == ("__classdict__" : Str)) && !(x == ("__name__" : Str))
theorem okName_of {x : Str} (h : okName x = true) : (x == ("__debug__" : Str)) = false ∧ (x == ("__classdict__" : Str)) = false ∧ x ≠ "__name__" := by
  unfold okName at h
  simp only [Bool.and_eq_true, Bool.not_eq_true'] at h
  refine ⟨h.1.1, h.1.2, fun e => ?_⟩
  have := h.2
  rw [e] at this
  simp at this

theorem s_var {i : Nat} {x : Str} {p : Pos} (hi : X.N[i]? = some x) (hv : visB X.env.scope x = true) (ho : okName x = true) : PE X (.Name x p) (tE W X.K lk (.var i)) := by
  obtain ⟨h1, h2, _⟩ := okName_of ho
  refine pe_weak (pe_var hi (visB_vis hv) h1 h2) fun σ H Q ⟨B, G, LA, e, s, c, e', s', a, ev, k⟩ => ?_
  unfold evE at ev
  cases hc : at_ e i with
  | none => rw [hc] at ev; cases ev
  | some c0 =>
    rw [hc] at ev
    cases c0 with
    | v d =>
      cases ev
      obtain ⟨v, e1, r⟩ := a.slot i _ hc
      exact ⟨v, e1, k v G H a Ext.refl (COk.v r)⟩
    | l ds =>
      dsimp only at ev
      split at ev
      · cases ev
      · rename_i hl
        cases ev
        have hi' : i ∉ lk := fun z => hl (by simpa using z)
        obtain ⟨v, G', e1, a', ext, dq⟩ := a.freezeAt hc hi'
        exact ⟨v, e1, k v G' H a' ext (COk.v dq)⟩
    | s =>
      cases ev
      obtain ⟨v, e1, r⟩ := a.slot i _ hc
      exact ⟨v, e1, k v G H a Ext.refl ⟨r, fun z => by cases z⟩⟩
    | k _ => cases ev
    | t _ => cases ev
theorem s_alend {i : Nat} {x : Str} {p : Pos} (hi : X.N[i]? = some x) (hv : visB X.env.scope x = true) (ho : okName x = true) : PE X (.Name x p) (tA W X.K lk (.lend i)) := by
  obtain ⟨h1, h2, _⟩ := okName_of ho
  refine pe_weak (pe_var hi (visB_vis hv) h1 h2) fun σ H Q ⟨B, G, LA, e, s, r, e', s', a, ev, k⟩ => ?_
  obtain ⟨c, hc, h3⟩ := map_some (show (at_ e i).map _ = some (r, e', s') from ev)
  cases h3
  obtain ⟨v, e1, _⟩ := a.slot i c hc
  exact ⟨v, e1, k v G H a Ext.refl e1⟩
theorem s_mv {i : Nat} {x : Str} {p : Pos} (hi : X.N[i]? = some x) (hv : visB X.env.scope x = true) (ho : okName x = true) : PE X (.Name x p) (tE W X.K lk (.mv i)) := by
  obtain ⟨h1, h2, _⟩ := okName_of ho
  refine pe_weak (pe_var hi (visB_vis hv) h1 h2) fun σ H Q ⟨B, G, LA, e, s, c, e', s', a, ev, k⟩ => ?_
  unfold evE at ev
  cases hc : at_ e i with
  | none => rw [hc] at ev; cases ev
  | some c0 =>
    rw [hc] at ev
    have own : isOwn c0 = true → (if lk.contains i = true then none else some (c0, e.set i none, s)) = some (c, e', s') → ∃ v, σ[i]? = some (some v) ∧ Q v H := fun ow ev => by
      split at ev
      · cases ev
      · rename_i hl
        cases ev
        have hi' : i ∉ lk := fun z => hl (by simpa using z)
        obtain ⟨v, e1, r⟩ := a.slot i _ hc
        exact ⟨v, e1, k v G H (a.drop (i := i)) Ext.refl (a.take hc hi' e1)⟩
    cases c0 with
    | v d =>
      cases ev
      obtain ⟨v, e1, r⟩ := a.slot i _ hc
      exact ⟨v, e1, k v G H a Ext.refl (COk.v r)⟩
    | l ds => exact own rfl ev
    | k _ => exact own rfl ev
    | t _ => exact own rfl ev
    | s => cases ev
theorem s_con {x : Expr} {d : D} {v : V} (h : PE X x (tC v)) (r : ∀ G, Dq X.K G v d) : PE X x (tE W X.K lk (.con d)) := by
  refine pe_weak h fun σ H Q ⟨B, G, LA, e, s, c, e', s', a, ev, k⟩ => ?_
  unfold evE at ev
  cases ev
  exact k v G H a Ext.refl (COk.v (r G))
/-- (a, b, ..) -/
theorem pe_tupF {es : List Expr} {t : TA} {n : Nat} {pos : Pos} (h : PA X es t) : PE X (.Tuple es n pos) (fun σ H Q => t σ H fun xs H1 => xs.length ≤ sizeLine ∧ ∀ o p, o.dict = none → H1 p = none → Q (.ref p) (upd H1 p (.frz o (.tup xs)))) := by
  constructor
  intro pins s σ H Q I hq
  apply wpAny_Tuple_spliced
  refine thn (h.run pos pins s σ H _ I hq) ?_
  rintro us s1 ⟨xs, H1, I1, r, z, q⟩
  refine ⟨by rw [← r.length]; exact z, ?_⟩
  refine ⟨.ref s1.heap.objs.size, _, I1.laid (t' := s1.toks) (o := .frz (tupO us) (.tup xs)) (fun b u e => Heap.get?_push_of_some _ e) (Nat.le_refl _) (tup_ok r z (Heap.get?_push_size _ rfl)), rfl, q _ _ rfl (I1.hok.fresh (Nat.le_refl _))⟩
theorem s_tup {es : List Expr} {n : Nat} {pos : Pos} {as : IR} (h : PA X es (tDs W X.K lk as)) : PE X (.Tuple es n pos) (tE W X.K lk (.tup as)) := by
  refine pe_weak (pe_tupF h) fun σ H Q ⟨B, G, LA, e, s, c, e', s', a, ev, k⟩ => ?_
  unfold evE at ev
  obtain ⟨⟨ds, e1, s1⟩, h1, h2⟩ := bind_some ev
  dsimp only at h2
  split at h2
  · rename_i hf
    cases h2
    refine ⟨B, G, LA, e, s, ds, e', s', a, h1, fun vs G1 H1 a1 ext q => ⟨by rw [dpA_len q]; exact fits_le hf, fun o p n hp => ?_⟩⟩
    exact fin_t a1 (fun v G' H' a' ext' cok => k v G' H' a' (ext.trans ext') cok) q n hp
  · cases h2
theorem s_lst {es : List Expr} {pos : Pos} {as : IR} (h : PA X es (tDs W X.K lk as)) : PE X (.List es pos) (tE W X.K lk (.lst as)) := by
  refine pe_weak (pe_lst h) fun σ H Q ⟨B, G, LA, e, s, c, e', s', a, ev, k⟩ => ?_
  unfold evE at ev
  obtain ⟨⟨ds, e1, s1⟩, h1, h2⟩ := bind_some ev
  dsimp only at h2
  split at h2
  · rename_i hf
    cases h2
    refine ⟨B, G, LA, e, s, ds, e', s', a, h1, fun vs G1 H1 a1 ext q => ⟨by rw [dpA_len q]; exact fits_le hf, fun p hp => ?_⟩⟩
    exact fin_l a1 (fun v G' H' a' ext' cok => k v G' H' a' (ext.trans ext') cok) q hp
  · cases h2
theorem s_newd {pos : Pos} : PE X (.Dict [] [] pos) (tE W X.K lk (.newd false)) := by
  refine pe_weak pe_dnewK fun σ H Q ⟨B, G, LA, e, s, c, e', s', a, ev, k⟩ => ?_
  unfold evE at ev
  cases ev
  intro p hp
  refine k (.ref p) G _ (a.new hp) Ext.refl ⟨⟨p, [], rfl, upd_same, .nil⟩, fun _ => ⟨p, rfl, a.bnone hp, a.gnone hp, (a.ned hp).1, (a.ned hp).2, fun i c' h1 h2 h3 h4 => ?_⟩⟩
  obtain ⟨v, e1, r⟩ := a.slot i c' h1
  obtain ⟨p', u, e2, q, _⟩ := r.own h2
  rw [h4] at e1
  cases e1
  cases e2
  rw [hp] at q
  cases q
/-- a row of data -/
theorem s_dnil : PA X [] (tDs W X.K lk .nil) := by
  refine pa_weak pa_nil fun σ H Q ⟨B, G, LA, e, s, ds, e', s', a, ev, k⟩ => ?_
  cases ev
  exact k [] G H a Ext.refl .nil
def notStar : Expr → Bool
  | .Starred _ _ => false
  | _ => true
theorem starEach_cons {e : Expr} (h : notStar e = true) (es : List Expr) (env : Env) : starEach (e :: es) env = (false, eval e env) :: starEach es env := by
  cases e <;> first
    | rfl
    | cases h
theorem star_none {es : List Expr} (h : es.all notStar = true) (pos : Pos) (env : Env) : (backTo pos (starEach es env)).any (·.1) = false := by
  induction es with
  | nil => rfl
  | cons e es ih =>
    rw [List.all_cons, Bool.and_eq_true] at h
    rw [starEach_cons h.1]
    exact ih h.2
theorem s_dcons {e : Expr} {es : List Expr} {ia ir : IR} (ns : notStar e = true) (ha : PE X e (tE W X.K lk ia)) (hr : PA X es (tDs W X.K lk ir)) : PA X (e :: es) (tDs W X.K lk (.cons ia ir)) := by
  refine pa_weak (pa_cons ha hr (starEach_cons ns es X.env)) fun σ H Q ⟨B, G, LA, e, s, ds, e', s', a, ev, k⟩ => ?_
  obtain ⟨⟨c, e1, s1⟩, h1, h2⟩ := bind_some (show (evE W.gl W.calls ia lk e s).bind _ = some (ds, e', s') from ev)
  obtain ⟨d, h3, h4⟩ := bind_some h2
  obtain ⟨⟨ds', e2, s2⟩, h5, h6⟩ := map_some h4
  cases h6
  refine ⟨B, G, LA, e, s, c, e1, s1, a, h1, fun v G1 H1 a1 ext cok => ?_⟩
  obtain ⟨G2, a2, ext2, dq⟩ := a1.freeze cok h3
  exact ⟨B, G2, LA, e1, s1, ds', e', s', a2, h5, fun vs G3 H3 a3 ext3 q => k (v :: vs) G3 H3 a3 ((ext.trans ext2).trans ext3) (.cons (dp_same ext3.1 dq) q)⟩
theorem s_anil : PA X [] (tAs W X.K lk .nil) := by
  refine pa_weak pa_nil fun σ H Q ⟨B, G, LA, e, s, ds, e', s', a, ev, k⟩ => ?_
  cases ev
  exact k [] G H a Ext.refl .nil
theorem s_acons {e : Expr} {es : List Expr} {ia ir : IR} (ns : notStar e = true) (ha : PE X e (tA W X.K lk ia)) (hr : PA X es (tAs W X.K lk ir)) : PA X (e :: es) (tAs W X.K lk (.cons ia ir)) :=
  pa_weak (pa_cons ha hr (starEach_cons ns es X.env)) fun σ H Q h => tAs_cons h
theorem s_a {e : Expr} {ia : IR} (nl : notLend ia = true) (h : PE X e (tE W X.K lk ia)) : PE X e (tA W X.K lk ia) := pe_weak h fun σ H Q q => tE_to_tA (notLend_ne nl) q
end
end GW

namespace GW
open PySem PySem.Spec PyProof.Rows L2

section
variable {X : Cx} {W : Wd} {lk : List Nat} {a b c : Expr} {ia ib ic : IR} {pos : Pos}

def binOp : Operator → Option Op
  | .Add => some .add
  | .Sub => some .sub
  | .Mult => some .mul
  | .FloorDiv => some .fdiv
  | .Mod => some .mod
  | _ => none
theorem binOp_ok {ao : Operator} {o : Op} (h : binOp ao = some o) : OpR X (binaryOp ao) (rO2 X.K W.A o) := by
  cases ao <;> first
    | (cases h; first | exact o_add | exact o_sub | exact o_mul | exact o_fdiv | exact o_mod)
    | cases h
theorem s_bin {ao : Operator} {o : Op} (ho : binOp ao = some o) (ha : PE X a (tA W X.K lk ia)) (hb : PE X b (tA W X.K lk ib)) : PE X (.BinOp a ao b pos) (tE W X.K lk (.op o (.cons ia (.cons ib .nil)))) :=
  pe_weak (pe_op (binOp_ok (W := W) ho) ha hb) fun σ H Q h => tAs_two (tE_op h) fun _ _ _ q => q
def cmpOp : CmpOp → Option Op
  | .Eq => some .eq
  | .NotEq => some .ne
  | .Lt => some .lt
  | .LtE => some .le
  | .Gt => some .gt
  | .GtE => some .ge
  | .In => some .inn
  | .NotIn => some .nin
  | _ => none
theorem cmpOp_ok (hu : X.A.units + 66 < cLine) {ao : CmpOp} {o : Op} (h : cmpOp ao = some o) : OpR X (compareOp ao) (rO2 X.K W.A o) := by
  cases ao <;> first
    | (cases h; first | exact o_eq (by omega) | exact o_ne (by omega) | exact o_lt | exact o_le | exact o_gt | exact o_ge | exact o_inn (by omega) | exact o_nin (by omega))
    | cases h
theorem s_cmp (hu : X.A.units + 66 < cLine) {ao : CmpOp} {o : Op} (ho : cmpOp ao = some o) (ha : PE X a (tA W X.K lk ia)) (hb : PE X b (tA W X.K lk ib)) (hm : behindInMarks ao b = false) :
    PE X (.Compare a [ao] [b] pos) (tE W X.K lk (.op o (.cons ia (.cons ib .nil)))) :=
  pe_weak (pe_cmpR (cmpOp_ok (W := W) hu ho) ha hb hm) fun σ H Q h => tAs_two (tE_op h) fun _ _ _ q => q
/-- a test of a value that is a bool -/
theorem tT_tru {ir : IR} {σ : L2.St} {H : Hp} {Q : Bool → Hp → Prop} (h : tT W X.K lk (.tru ir) σ H Q) : tE W X.K lk ir σ H fun x H1 => ∃ k, x = .bl k ∧ Q k H1 := by
  obtain ⟨B, G, LA, e, s, t, e', s', a, ev, k⟩ := h
  obtain ⟨⟨c, e1, s1⟩, h1, h2⟩ := bind_some (show (evE W.gl W.calls ir lk e s).bind _ = some (t, e', s') from ev)
  dsimp only at h2
  split at h2
  · cases h2
    refine ⟨B, G, LA, e, s, _, e', s', a, h1, fun v G1 H1 a1 ext cok => ?_⟩
    have r := cok.1
    cases (show Dq X.K G1 v (.bool t) from r)
    exact ⟨_, rfl, k G1 H1 a1 ext⟩
  · cases h2
theorem s_tcmp (hu : X.A.units + 66 < cLine) {ao : CmpOp} {o : Op} (ho : cmpOp ao = some o) (ha : PE X a (tA W X.K lk ia)) (hb : PE X b (tA W X.K lk ib)) (hm : behindInMarks ao b = false) :
    PT X (.Compare a [ao] [b] pos) (tT W X.K lk (.tru (.op o (.cons ia (.cons ib .nil))))) :=
  pt_weak (pt_cmpR (cmpOp_ok (W := W) hu ho) ha hb hm) fun σ H Q h => tAs_two (tE_op (tT_tru h)) fun _ _ _ q => q

theorem dq_none {K : PySem.W.Frag} {G H : Hp} {d : D} {v : V} (h : RvOk K G H (.d d) v) : decide (v = .non) = (match d with | .none => true | _ => false) := by
  rcases h with h | ⟨p, xs, ds, rfl, rfl, _, _⟩
  · cases h <;> rfl
  · rfl
theorem isN_val {v : V} {σ : L2.St} {H : Hp} {Q : VK} (h : rO X.K W.A .isN [v] H Q) : Q (.bl (decide (v = .non))) H := by
  obtain ⟨B, G, lk, LA, σ0, e, s0, rs, c, a, pr, hd, k⟩ := h
  obtain ⟨r, rfl, h1⟩ := p1 pr
  obtain ⟨d, rfl, h2⟩ := one_form hd (fun _ => rfl) (fun _ => rfl) (fun _ => rfl)
  rw [dq_none h1]
  cases d <;> (cases h2; exact fin_v a k (.bl _))
theorem notN_val {v : V} {σ : L2.St} {H : Hp} {Q : VK} (h : rO X.K W.A .notN [v] H Q) : Q (.bl (!decide (v = .non))) H := by
  obtain ⟨B, G, lk, LA, σ0, e, s0, rs, c, a, pr, hd, k⟩ := h
  obtain ⟨r, rfl, h1⟩ := p1 pr
  obtain ⟨d, rfl, h2⟩ := one_form hd (fun _ => rfl) (fun _ => rfl) (fun _ => rfl)
  rw [dq_none h1]
  cases d <;> (cases h2; exact fin_v a k (.bl _))
theorem s_isN {j : Nat} {p' : Pos} (ha : PE X a (tA W X.K lk ia)) : PE X (.Compare a [.Is] [.Constant .none j p'] pos) (tE W X.K lk (.op .isN (.cons ia .nil))) :=
  pe_weak (pe_cmp (pc_isN ha)) fun σ H Q h => tAs_one (tE_op h) fun x H1 q => isN_val (σ := σ) q
theorem s_notN {j : Nat} {p' : Pos} (ha : PE X a (tA W X.K lk ia)) : PE X (.Compare a [.IsNot] [.Constant .none j p'] pos) (tE W X.K lk (.op .notN (.cons ia .nil))) :=
  pe_weak (pe_cmp (pc_notN ha)) fun σ H Q h => tAs_one (tE_op h) fun x H1 q => notN_val (σ := σ) q
theorem s_tisN {j : Nat} {p' : Pos} (ha : PE X a (tA W X.K lk ia)) : PT X (.Compare a [.Is] [.Constant .none j p'] pos) (tT W X.K lk (.tru (.op .isN (.cons ia .nil)))) :=
  pt_weak (pt_cmp (pc_isN ha)) fun σ H Q h => tAs_one (tE_op (tT_tru h)) fun x H1 q => isN_val (σ := σ) q
theorem s_tnotN {j : Nat} {p' : Pos} (ha : PE X a (tA W X.K lk ia)) : PT X (.Compare a [.IsNot] [.Constant .none j p'] pos) (tT W X.K lk (.tru (.op .notN (.cons ia .nil)))) :=
  pt_weak (pt_cmp (pc_notN ha)) fun σ H Q h => tAs_one (tE_op (tT_tru h)) fun x H1 q => notN_val (σ := σ) q
theorem isB_val {t : Bool} {v : V} {H : Hp} {Q : VK} (h : rO X.K W.A (.isB t) [v] H Q) : ∃ k, v = .bl k ∧ Q (.bl (decide (k = t))) H := by
  obtain ⟨B, G, lk, LA, σ0, e, s0, rs, c, a, pr, hd, k⟩ := h
  obtain ⟨r, rfl, h1⟩ := p1 pr
  obtain ⟨d, rfl, h2⟩ := one_form hd (fun _ => rfl) (fun _ => rfl) (fun _ => rfl)
  cases d with
  | bool x =>
    cases h2
    exact ⟨x, h1.bool, fin_v a k (.bl _)⟩
  | _ => cases h2
theorem notB_val {t : Bool} {v : V} {H : Hp} {Q : VK} (h : rO X.K W.A (.notB t) [v] H Q) : ∃ k, v = .bl k ∧ Q (.bl (!decide (k = t))) H := by
  obtain ⟨B, G, lk, LA, σ0, e, s0, rs, c, a, pr, hd, k⟩ := h
  obtain ⟨r, rfl, h1⟩ := p1 pr
  obtain ⟨d, rfl, h2⟩ := one_form hd (fun _ => rfl) (fun _ => rfl) (fun _ => rfl)
  cases d with
  | bool x =>
    cases h2
    exact ⟨x, h1.bool, fin_v a k (.bl _)⟩
  | _ => cases h2
theorem isB_mono {t : Bool} {σ : L2.St} {H : Hp} {Q : VK} (h : tE W X.K lk (.op (.isB t) (.cons ia .nil)) σ H Q) : tOp rIsB (tA W X.K lk ia) (tC (.bl t)) σ H Q :=
  tAs_one (tE_op h) fun x H1 q => by
    obtain ⟨k, ex, q'⟩ := isB_val q
    exact ⟨k, t, ex, rfl, q'⟩
theorem notB_mono {t : Bool} {σ : L2.St} {H : Hp} {Q : VK} (h : tE W X.K lk (.op (.notB t) (.cons ia .nil)) σ H Q) : tOp rNotB (tA W X.K lk ia) (tC (.bl t)) σ H Q :=
  tAs_one (tE_op h) fun x H1 q => by
    obtain ⟨k, ex, q'⟩ := notB_val q
    exact ⟨k, t, ex, rfl, q'⟩
theorem s_isB {t : Bool} {j : Nat} {p' : Pos} (ha : PE X a (tA W X.K lk ia)) : PE X (.Compare a [.Is] [.Constant (.bool t) j p'] pos) (tE W X.K lk (.op (.isB t) (.cons ia .nil))) :=
  pe_weak (pe_cmpR op_isBl ha pe_bl rfl) fun σ H Q h => isB_mono h
theorem s_notB {t : Bool} {j : Nat} {p' : Pos} (ha : PE X a (tA W X.K lk ia)) : PE X (.Compare a [.IsNot] [.Constant (.bool t) j p'] pos) (tE W X.K lk (.op (.notB t) (.cons ia .nil))) :=
  pe_weak (pe_cmpR op_notBl ha pe_bl rfl) fun σ H Q h => notB_mono h
theorem s_tisB {t : Bool} {j : Nat} {p' : Pos} (ha : PE X a (tA W X.K lk ia)) : PT X (.Compare a [.Is] [.Constant (.bool t) j p'] pos) (tT W X.K lk (.tru (.op (.isB t) (.cons ia .nil)))) :=
  pt_weak (pt_cmpR op_isBl ha pe_bl rfl) fun σ H Q h => isB_mono (tT_tru h)
theorem s_tnotB {t : Bool} {j : Nat} {p' : Pos} (ha : PE X a (tA W X.K lk ia)) : PT X (.Compare a [.IsNot] [.Constant (.bool t) j p'] pos) (tT W X.K lk (.tru (.op (.notB t) (.cons ia .nil)))) :=
  pt_weak (pt_cmpR op_notBl ha pe_bl rfl) fun σ H Q h => notB_mono (tT_tru h)

def ordR (X : Cx) (o : Op) : R2 := rI0 fun i j => .bl (cmpI o i j)
def ordOp : CmpOp → Option Op
  | .Lt => some .lt
  | .LtE => some .le
  | .Gt => some .gt
  | .GtE => some .ge
  | _ => none
theorem ordOp_ok {ao : CmpOp} {o : Op} (h : ordOp ao = some o) : OpR X (compareOp ao) (rI0 fun i j => .bl (cmpI o i j)) := by
  cases ao <;> first
    | (cases h; first | exact op_lt | exact op_le | exact op_gt | exact op_ge)
    | cases h
theorem chain_mono {o o' : Op} {σ : L2.St} {H : Hp} {Q : VK} (h : tE W X.K lk (.chain o o' ia ib ic) σ H Q) :
    tChain (rI0 fun i j => .bl (cmpI o i j)) (rI0 fun i j => .bl (cmpI o' i j)) (tE W X.K lk ia) (tE W X.K lk ib) (tE W X.K lk ic) σ H Q := by
  obtain ⟨B, G, LA, e, s, c, e', s', a, ev, k⟩ := h
  obtain ⟨⟨x, e1, s1⟩, h1, h2⟩ := bind_some (show (evE W.gl W.calls ia lk e s).bind _ = some (c, e', s') from ev)
  obtain ⟨⟨y, e2, s2⟩, h3, h4⟩ := bind_some h2
  dsimp only at h3 h4
  split at h4
  · rename_i i j
    split at h4
    · refine ⟨B, G, LA, e, s, _, e1, s1, a, h1, fun v G1 H1 a1 ext1 cok1 => ?_⟩
      cases (show Dq X.K G1 v (.int i) from cok1.1)
      refine ⟨B, G1, LA, e1, s1, _, e2, s2, a1, h3, fun v2 G2 H2 a2 ext2 cok2 => ?_⟩
      cases (show Dq X.K G2 v2 (.int j) from cok2.1)
      refine ⟨i, j, rfl, rfl, _, rfl, ?_⟩
      split at h4
      · rename_i hc
        rw [if_pos hc]
        obtain ⟨⟨z, e3, s3⟩, h5, h6⟩ := bind_some h4
        dsimp only at h6
        split at h6
        · rename_i n
          cases h6
          refine ⟨B, G2, LA, e2, s2, _, e', s', a2, h5, fun v3 G3 H3 a3 ext3 cok3 => ?_⟩
          cases (show Dq X.K G3 v3 (.int n) from cok3.1)
          exact ⟨j, n, rfl, rfl, k _ G3 H3 a3 ((ext1.trans ext2).trans ext3) (COk.v (.bl _))⟩
        · cases h6
      · rename_i hc
        rw [if_neg hc]
        cases h4
        exact k _ G2 H2 a2 (ext1.trans ext2) (COk.v (.bl _))
    · cases h4
  · cases h4
theorem s_chain {ao ao' : CmpOp} {o o' : Op} (ho : ordOp ao = some o) (ho' : ordOp ao' = some o') (ha : PE X a (tE W X.K lk ia)) (hb : PE X b (tE W X.K lk ib)) (hc : PE X c (tE W X.K lk ic)) (hm : lastMarks [ao, ao'] [b, c] = false) :
    PE X (.Compare a [ao, ao'] [b, c] pos) (tE W X.K lk (.chain o o' ia ib ic)) :=
  pe_weak (pe_chain (ordOp_ok ho) (ordOp_ok ho') ha hb hc hm) fun σ H Q h => chain_mono h
theorem s_tchain {ao ao' : CmpOp} {o o' : Op} (ho : ordOp ao = some o) (ho' : ordOp ao' = some o') (ha : PE X a (tE W X.K lk ia)) (hb : PE X b (tE W X.K lk ib)) (hc : PE X c (tE W X.K lk ic)) (hm : lastMarks [ao, ao'] [b, c] = false) :
    PT X (.Compare a [ao, ao'] [b, c] pos) (tT W X.K lk (.tru (.chain o o' ia ib ic))) :=
  pt_weak (pt_chain (ordOp_ok ho) (ordOp_ok ho') ha hb hc hm) fun σ H Q h => chain_mono (tT_tru h)

theorem s_one {op : BoolOp} {t : TE} (h : PE X a t) : PE X (.BoolOp op [a] pos) t := pe_one h
theorem s_and {rest : List Expr} (ha : PE X a (tE W X.K lk ia)) (hb : PE X (.BoolOp .And (b :: rest) pos) (tE W X.K lk ib)) : PE X (.BoolOp .And (a :: b :: rest) pos) (tE W X.K lk (.and ia ib)) := by
  refine pe_weak (pe_and ha hb) fun σ H Q ⟨B, G, LA, e, s, c, e', s', a, ev, k⟩ => ?_
  obtain ⟨⟨x, e1, s1⟩, h1, h2⟩ := bind_some (show (evE W.gl W.calls ia lk e s).bind _ = some (c, e', s') from ev)
  dsimp only at h2
  refine ⟨B, G, LA, e, s, x, e1, s1, a, h1, fun v G1 H1 a1 ext1 cok1 => ?_⟩
  split at h2
  · cases (show Dq X.K G1 v (.bool true) from cok1.1)
    exact ⟨true, rfl, by rw [if_pos rfl]; exact ⟨B, G1, LA, e1, s1, c, e', s', a1, h2, fun v2 G2 H2 a2 ext2 cok2 => k v2 G2 H2 a2 (ext1.trans ext2) cok2⟩⟩
  · cases (show Dq X.K G1 v (.bool false) from cok1.1)
    cases h2
    exact ⟨false, rfl, by rw [if_neg Bool.false_ne_true]; exact k _ G1 H1 a1 ext1 (COk.v (.bl _))⟩
  · cases h2
theorem s_or {rest : List Expr} (ha : PE X a (tE W X.K lk ia)) (hb : PE X (.BoolOp .Or (b :: rest) pos) (tE W X.K lk ib)) : PE X (.BoolOp .Or (a :: b :: rest) pos) (tE W X.K lk (.or ia ib)) := by
  refine pe_weak (pe_or ha hb) fun σ H Q ⟨B, G, LA, e, s, c, e', s', a, ev, k⟩ => ?_
  obtain ⟨⟨x, e1, s1⟩, h1, h2⟩ := bind_some (show (evE W.gl W.calls ia lk e s).bind _ = some (c, e', s') from ev)
  dsimp only at h2
  refine ⟨B, G, LA, e, s, x, e1, s1, a, h1, fun v G1 H1 a1 ext1 cok1 => ?_⟩
  split at h2
  · cases (show Dq X.K G1 v (.bool false) from cok1.1)
    exact ⟨false, rfl, by rw [if_neg Bool.false_ne_true]; exact ⟨B, G1, LA, e1, s1, c, e', s', a1, h2, fun v2 G2 H2 a2 ext2 cok2 => k v2 G2 H2 a2 (ext1.trans ext2) cok2⟩⟩
  · cases (show Dq X.K G1 v (.bool true) from cok1.1)
    cases h2
    exact ⟨true, rfl, by rw [if_pos rfl]; exact k _ G1 H1 a1 ext1 (COk.v (.bl _))⟩
  · cases h2
theorem s_not (ha : PE X a (tE W X.K lk ia)) : PE X (.UnaryOp .Not a pos) (tE W X.K lk (.not ia)) := by
  refine pe_weak (pe_not ha) fun σ H Q ⟨B, G, LA, e, s, c, e', s', a, ev, k⟩ => ?_
  obtain ⟨⟨x, e1, s1⟩, h1, h2⟩ := bind_some (show (evE W.gl W.calls ia lk e s).bind _ = some (c, e', s') from ev)
  dsimp only at h2
  refine ⟨B, G, LA, e, s, x, e1, s1, a, h1, fun v G1 H1 a1 ext1 cok1 => ?_⟩
  split at h2
  · rename_i t
    cases (show Dq X.K G1 v (.bool t) from cok1.1)
    cases h2
    exact ⟨t, rfl, k _ G1 H1 a1 ext1 (COk.v (.bl _))⟩
  · cases h2
theorem un_neg' : UnR X (unaryOp .USub) (rO1 X.K W.A .neg) := by
  intro pins s σ H x v Q I rx ⟨B, G, lk, LA, σ0, e, s0, rs, c, a, pr, hd, k⟩
  obtain ⟨r, rfl, h1⟩ := p1 pr
  obtain ⟨d, rfl, h2⟩ := one_form hd (fun _ => rfl) (fun _ => rfl) (fun _ => rfl)
  cases d with
  | int i =>
    cases h2
    have ex := h1.int
    subst ex
    exact un_neg pins s σ H _ v Q I rx ⟨i, rfl, fin_v a k (.int _)⟩
  | _ => cases h2
theorem s_neg (ha : PE X a (tA W X.K lk ia)) : PE X (.UnaryOp .USub a pos) (tE W X.K lk (.op .neg (.cons ia .nil))) :=
  pe_weak (pe_un (un_neg' (W := W)) ha) fun σ H Q h => tAs_one (tE_op h) fun _ _ q => q
theorem s_ite (hc : PT X c (tT W X.K lk ic)) (ha : PE X a (tE W X.K lk ia)) (hb : PE X b (tE W X.K lk ib)) : PE X (.IfExp c a b pos) (tE W X.K lk (.ite ic ia ib)) := by
  refine pe_weak (pe_ifExp hc ha hb) fun σ H Q ⟨B, G, LA, e, s, c, e', s', a, ev, k⟩ => ?_
  obtain ⟨⟨t, e1, s1⟩, h1, h2⟩ := bind_some (show (evT W.gl W.calls ic lk e s).bind _ = some (c, e', s') from ev)
  dsimp only at h2
  refine ⟨B, G, LA, e, s, t, e1, s1, a, h1, fun G1 H1 a1 ext1 => ?_⟩
  cases t with
  | true => exact ⟨B, G1, LA, e1, s1, c, e', s', a1, h2, fun v2 G2 H2 a2 ext2 cok2 => k v2 G2 H2 a2 (ext1.trans ext2) cok2⟩
  | false => exact ⟨B, G1, LA, e1, s1, c, e', s', a1, h2, fun v2 G2 H2 a2 ext2 cok2 => k v2 G2 H2 a2 (ext1.trans ext2) cok2⟩
theorem s_wone_and (h : PT X a (tT W X.K lk ia)) : PW X (.BoolOp .And [a] pos) (tT W X.K lk ia) := pw_and1 h
theorem s_wone_or (h : PT X a (tT W X.K lk ia)) : PW X (.BoolOp .Or [a] pos) (tT W X.K lk ia) := pw_or1 h
theorem s_wand {rest : List Expr} (ha : PT X a (tT W X.K lk ia)) (hb : PW X (.BoolOp .And (b :: rest) pos) (tT W X.K lk ib)) : PW X (.BoolOp .And (a :: b :: rest) pos) (tT W X.K lk (.and ia ib)) := by
  refine pw_weak (pw_and ha hb) fun σ H Q ⟨B, G, LA, e, s, t, e', s', a, ev, k⟩ => ?_
  obtain ⟨⟨x, e1, s1⟩, h1, h2⟩ := bind_some (show (evT W.gl W.calls ia lk e s).bind _ = some (t, e', s') from ev)
  dsimp only at h2
  refine ⟨B, G, LA, e, s, x, e1, s1, a, h1, fun G1 H1 a1 ext1 => ?_⟩
  cases x with
  | true => exact ⟨B, G1, LA, e1, s1, t, e', s', a1, h2, fun G2 H2 a2 ext2 => k G2 H2 a2 (ext1.trans ext2)⟩
  | false =>
    cases h2
    exact k G1 H1 a1 ext1
theorem s_wor {rest : List Expr} (ha : PT X a (tT W X.K lk ia)) (hb : PW X (.BoolOp .Or (b :: rest) pos) (tT W X.K lk ib)) : PW X (.BoolOp .Or (a :: b :: rest) pos) (tT W X.K lk (.or ia ib)) := by
  refine pw_weak (pw_or ha hb) fun σ H Q ⟨B, G, LA, e, s, t, e', s', a, ev, k⟩ => ?_
  obtain ⟨⟨x, e1, s1⟩, h1, h2⟩ := bind_some (show (evT W.gl W.calls ia lk e s).bind _ = some (t, e', s') from ev)
  dsimp only at h2
  refine ⟨B, G, LA, e, s, x, e1, s1, a, h1, fun G1 H1 a1 ext1 => ?_⟩
  cases x with
  | false => exact ⟨B, G1, LA, e1, s1, t, e', s', a1, h2, fun G2 H2 a2 ext2 => k G2 H2 a2 (ext1.trans ext2)⟩
  | true =>
    cases h2
    exact k G1 H1 a1 ext1
theorem s_tnot (ha : PT X a (tT W X.K lk ia)) : PT X (.UnaryOp .Not a pos) (tT W X.K lk (.not ia)) := by
  refine pt_weak (pt_not ha) fun σ H Q ⟨B, G, LA, e, s, t, e', s', a, ev, k⟩ => ?_
  obtain ⟨⟨x, e1, s1⟩, h1, h2⟩ := bind_some (show (evT W.gl W.calls ia lk e s).bind _ = some (t, e', s') from ev)
  cases h2
  exact ⟨B, G, LA, e, s, x, e', s', a, h1, fun G1 H1 a1 ext1 => k G1 H1 a1 ext1⟩
def plainT : Expr → Bool
  | .UnaryOp _ _ _ => false
  | .BoolOp _ _ _ => false
  | .IfExp _ _ _ _ => false
  | .Compare _ _ _ _ => false
  | _ => true
theorem s_tval (hp : plainT a = true) (ha : PE X a (tE W X.K lk ia)) : PT X a (tT W X.K lk (.tru ia)) := by
  refine pt_weak (pt_val ha fun whole => ?_) fun σ H Q h => tT_tru h
  cases a <;> first
    | rfl
    | cases hp
end
end GW

namespace GW
open PySem PySem.Spec PyProof.Rows L2

section
variable {X : Cx} {W : Wd} {lk : List Nat} {a b c : Expr} {ia ib ic : IR} {pos : Pos}
def plainIx : Expr → Bool
  | .Slice _ _ _ _ => false
  | .Tuple _ _ _ => false
  | _ => true
theorem plainIx_of {b : Expr} (h : plainIx b = true) : PlainIx b := fun o i => by
  cases b <;> first
    | rfl
    | cases h
theorem s_ix (hu : X.A.units + 66 < cLine) (hp : plainIx b = true) (ha : PE X a (tA W X.K lk ia)) (hb : PE X b (tA W X.K lk ib)) : PE X (.Subscript a b pos) (tE W X.K lk (.op .ix (.cons ia (.cons ib .nil)))) :=
  pe_weak (pe_ix (o_ix (A := W.A) (by omega)) ha hb (plainIx_of hp)) fun σ H Q h => tAs_two (tE_op h) fun _ _ _ q => q
theorem two_slLo {r1 r2 : Rv} {c : Ct} (h : opD .slLo [r1, r2] = some c) : ∃ d d', r1 = .d d ∧ r2 = .d d' ∧ op2 .slLo d d' = some c :=
  two_d h (fun _ _ => rfl) (fun _ r => by cases r <;> rfl) (fun _ r => by cases r <;> rfl) (fun _ _ => rfl) (fun _ _ => rfl)
theorem two_slHi {r1 r2 : Rv} {c : Ct} (h : opD .slHi [r1, r2] = some c) : ∃ d d', r1 = .d d ∧ r2 = .d d' ∧ op2 .slHi d d' = some c :=
  two_d h (fun _ _ => rfl) (fun _ r => by cases r <;> rfl) (fun _ r => by cases r <;> rfl) (fun _ _ => rfl) (fun _ _ => rfl)
theorem slLo_of {x y : V} {H : Hp} {Q : VK} (h : rO X.K W.A .slLo [x, y] H Q) : ∃ i, y = .int i ∧ rS X.K W.A x (some i) none H Q := by
  obtain ⟨B, G, lk, LA, σ0, e, s0, rs, c, a, pr, hd, k⟩ := h
  obtain ⟨r1, r2, rfl, h1, h2⟩ := p2 pr
  obtain ⟨d, d', rfl, rfl, hq⟩ := two_slLo hd
  cases d' with
  | int i => exact ⟨i, h2.int, B, G, lk, LA, σ0, e, s0, d, c, a, h1, hq, k⟩
  | _ => cases hq
theorem slHi_of {x y : V} {H : Hp} {Q : VK} (h : rO X.K W.A .slHi [x, y] H Q) : ∃ i, y = .int i ∧ rS X.K W.A x none (some i) H Q := by
  obtain ⟨B, G, lk, LA, σ0, e, s0, rs, c, a, pr, hd, k⟩ := h
  obtain ⟨r1, r2, rfl, h1, h2⟩ := p2 pr
  obtain ⟨d, d', rfl, rfl, hq⟩ := two_slHi hd
  cases d' with
  | int i => exact ⟨i, h2.int, B, G, lk, LA, σ0, e, s0, d, c, a, h1, hq, k⟩
  | _ => cases hq
theorem slB_form {r1 r2 r3 : Rv} {c : Ct} (hd : opD .slB [r1, r2, r3] = some c) : ∃ d i j, r1 = .d d ∧ r2 = .d (.int i) ∧ r3 = .d (.int j) ∧ sliceD d (some i) (some j) = some c := by
  have key : ∀ d d2 d3, opD .slB [.d d, .d d2, .d d3] = some c → ∃ i j, d2 = .int i ∧ d3 = .int j ∧ sliceD d (some i) (some j) = some c := fun d d2 d3 h => by
    cases d2 <;> first
      | (cases d3 <;> first | exact ⟨_, _, rfl, rfl, h⟩ | exact nomatch (show none = some c from h))
      | exact nomatch (show none = some c from h)
  cases r1 with
  | d d =>
    cases r2 with
    | d d2 =>
      cases r3 with
      | d d3 =>
        obtain ⟨i, j, rfl, rfl, h⟩ := key d d2 d3 hd
        exact ⟨d, i, j, rfl, rfl, rfl, h⟩
      | k _ => exact nomatch (show none = some c from hd)
      | t _ => exact nomatch (show none = some c from hd)
    | k _ => cases r3 <;> exact nomatch (show none = some c from hd)
    | t _ => cases r3 <;> exact nomatch (show none = some c from hd)
  | k _ => cases r2 <;> cases r3 <;> exact nomatch (show none = some c from hd)
  | t _ => cases r2 <;> cases r3 <;> exact nomatch (show none = some c from hd)
theorem s_slLo {p2 : Pos} (ha : PE X a (tA W X.K lk ia)) (hb : PE X b (tA W X.K lk ib)) : PE X (.Subscript a (.Slice (some b) none none p2) pos) (tE W X.K lk (.op .slLo (.cons ia (.cons ib .nil)))) :=
  pe_weak (pe_slice (s_slice (A := W.A)) ha (po_some hb) po_none) fun σ H Q h => tAs_two (tE_op h) (R := fun x y H2 => ∃ i, y = .int i ∧ rS X.K W.A x (some i) none H2 Q) fun _ _ _ q => slLo_of q
theorem s_slHi {p2 : Pos} (ha : PE X a (tA W X.K lk ia)) (hb : PE X b (tA W X.K lk ib)) : PE X (.Subscript a (.Slice none (some b) none p2) pos) (tE W X.K lk (.op .slHi (.cons ia (.cons ib .nil)))) :=
  pe_weak (pe_slice (s_slice (A := W.A)) ha po_none (po_some hb)) fun σ H Q h => tAs_two (tE_op h) (R := fun x y H2 => ∃ i, y = .int i ∧ rS X.K W.A x none (some i) H2 Q) fun _ _ _ q => slHi_of q
theorem evA_d {a : IR} (nl : notLend a = true) {lk : List Nat} {σ : Sl} {s : Src} {r : Ar} {e' : Sl} {s' : Src} (h : evA W a lk σ s = some (r, e', s')) : ∃ d, r = .d d := by
  rw [evA_e W (notLend_ne nl)] at h
  obtain ⟨⟨c, e1, s1⟩, h1, h2⟩ := bind_some h
  obtain ⟨d, h3, h4⟩ := map_some h2
  cases h4
  exact ⟨d, rfl⟩
theorem s_slB {p2 : Pos} (nb : notLend ib = true) (nc : notLend ic = true) (ha : PE X a (tA W X.K lk ia)) (hb : PE X b (tA W X.K lk ib)) (hc : PE X c (tA W X.K lk ic)) :
    PE X (.Subscript a (.Slice (some b) (some c) none p2) pos) (tE W X.K lk (.op .slB (.cons ia (.cons ib (.cons ic .nil))))) := by
  refine pe_weak (pe_slice (s_slice (A := W.A)) ha (po_some hb) (po_some hc)) fun σ H Q ⟨B, G, LA, e, s, c0, e', s', a0, ev, k⟩ => ?_
  obtain ⟨⟨rs, e1, s1⟩, h1, h2⟩ := bind_some (show (evAs W.gl W.calls _ lk e s).bind _ = some (c0, e', s') from ev)
  obtain ⟨xs, h3, h4⟩ := bind_some h2
  obtain ⟨c', h5, h6⟩ := map_some h4
  cases h6
  rw [evAs_cons] at h1
  obtain ⟨⟨x, e2, s2⟩, g1, g2⟩ := bind_some h1
  obtain ⟨⟨ys, e3, s3⟩, g3, g4⟩ := map_some g2
  cases g4
  rw [evAs_cons] at g3
  obtain ⟨⟨y, e4, s4⟩, g5, g6⟩ := bind_some g3
  obtain ⟨⟨zs, e5, s5⟩, g7, g8⟩ := map_some g6
  cases g8
  rw [evAs_cons] at g7
  obtain ⟨⟨z, e6, s6⟩, g9, g10⟩ := bind_some g7
  obtain ⟨⟨us, e7, s7⟩, g11, g12⟩ := map_some g10
  cases g12
  cases g11
  obtain ⟨d2, rfl⟩ := evA_d nb g5
  obtain ⟨d3, rfl⟩ := evA_d nc g9
  obtain ⟨x1, k1, k2⟩ := bind_some (show (res1 e' x).bind _ = some xs from h3)
  obtain ⟨xs2, k3, rfl⟩ := map_some k2
  cases k3
  obtain ⟨d, i, j, ed, e8, e9, hs⟩ := slB_form h5
  cases e8
  cases e9
  subst ed
  refine ⟨B, G, LA, e, s, x, e2, s2, a0, g1, fun v1 G1 H1 a1 ext1 r1 => ?_⟩
  refine ⟨B, G1, LA, e2, s2, _, e4, s4, a1, g5, fun v2 G2 H2 a2 ext2 r2 => ?_⟩
  cases (show Dq X.K G2 v2 (.int i) from r2)
  refine ⟨i, rfl, B, G2, LA, e4, s4, _, e', s', a2, g9, fun v3 G3 H3 a3 ext3 r3 => ?_⟩
  cases (show Dq X.K G3 v3 (.int j) from r3)
  exact ⟨j, rfl, B, G3, lk, LA, σ, e', s', d, c0, a3, r1.res a3 (ext2.trans ext3).1 k1, hs, fun v G4 H4 a4 ext4 cok => k v G4 H4 a4 ((ext1.trans ext2).trans (ext3.trans ext4)) cok⟩
end
end GW

namespace GW
open PySem PySem.Spec PyProof.Rows L2

/-- what is known of a block's surroundings -/
structure GX (X : Cx) (W : Wd) (N : List Str) (sc : Scope) (fs : List Str) : Prop where
  hN : X.N = N
  hsc : X.env.scope = sc
  nd : N.Nodup
  calm : X.calm = true
  gu : X.A.guards = some []
  room : Room W.k X.A
  xe : X.xe = fun _ _ => False
  fn : ∀ x ∈ fs, X.fn x = true
  blt : ∀ x ∈ (["range", "len", "tuple", "list", "int", "repr", "abs", "min", "max", "enumerate"] : List Str), X.mg x = none
  defs : ∀ f x, W.name f = some x → ∃ fa fd ps, X.mg x = some (.ref fa) ∧ PySem.W.keepIn X.K (.ref fa) = true ∧ Binds X.K fd ps [] ∧ FnG X.prog X.w X.K X.mg X.base W.k fa fd ps (spG X.K W.A W.calls f)
theorem GX.units {X : Cx} {W : Wd} {N : List Str} {sc : Scope} {fs : List Str} (g : GX X W N sc fs) : X.A.units + 66 < cLine := by
  have := g.room.un
  omega
def glB (sc : Scope) (x : Str) : Bool := match sc.names.lookup x with
  | some .globalImplicit => okName x
  | _ => false
def nmB (N : List Str) (sc : Scope) (i : Nat) (x : Str) : Bool := decide (N[i]? = some x) && visB sc x && okName x
section
variable {X : Cx} {W : Wd} {N : List Str} {sc : Scope} {fs : List Str} {lk : List Nat} {a b c : Expr} {ia ib ic as : IR} {pos : Pos} {es : List Expr}
theorem GX.gl (g : GX X W N sc fs) {x : Str} (h : glB sc x = true) : Gl X x ∧ (x == ("__debug__" : Str)) = false ∧ x ≠ "__name__" := by
  unfold glB at h
  split at h
  · rename_i e
    obtain ⟨h1, _, h3⟩ := okName_of h
    refine ⟨?_, h1, h3⟩
    show X.env.scope.names.lookup x = _
    rw [g.hsc]
    exact e
  · cases h
theorem GX.nm (g : GX X W N sc fs) {i : Nat} {x : Str} (h : nmB N sc i x = true) : X.N[i]? = some x ∧ visB X.env.scope x = true ∧ okName x = true := by
  unfold nmB at h
  rw [Bool.and_eq_true, Bool.and_eq_true] at h
  rw [g.hN, g.hsc]
  exact ⟨of_decide_eq_true h.1.1, h.1.2, h.2⟩

theorem s_rev {k : Nat} {p1 p2 p3 : Pos} (ha : PE X a (tA W X.K lk ia)) : PE X (.Subscript a (.Slice none none (some (.UnaryOp .USub (.Constant (.int 1) k p1) p2)) p3) pos) (tE W X.K lk (.op .rev (.cons ia .nil))) := by
  refine pe_weak (t := fun σ H Q => tA W X.K lk ia σ H fun x H1 => rO X.K W.A .rev [x] H1 Q) ?_ fun σ H Q h => tAs_one (tE_op h) fun _ _ q => q
  refine ⟨fun pins s σ H Q I h => ?_⟩
  refine Subscript_ (thn (ha.run pins s σ H _ I h) fun v s1 ⟨x, H1, I1, r1, q1⟩ => ?_)
  have hst : PO X (some (.UnaryOp .USub (.Constant (.int 1) k p1) p2)) (tPart (tUn (rU fun i => .int (-i)) (tC (.int 1)))) := po_some (pe_un un_neg pe_int)
  refine wpAny_Slice (thn (po_none.run pins s1 σ H1 (fun o H2 => o = none ∧ H2 = H1) I1 ⟨rfl, rfl⟩) fun vl s2 ⟨l, H2, I2, pl, el, e2⟩ => ?_)
  subst el e2
  refine thn (po_none.run pins s2 σ H2 (fun o H3 => o = none ∧ H3 = H2) I2 ⟨rfl, rfl⟩) fun vu s3 ⟨u, H3, I3, pu, eu, e3⟩ => ?_
  subst eu e3
  refine thn (hst.run pins s3 σ H3 (fun o H4 => o = some (-1) ∧ H4 = H3) I3 ⟨1, rfl, -1, rfl, rfl, rfl⟩) fun vs s4 ⟨o, H4, I4, ps, eo, e4⟩ => ?_
  subst eo e4
  have I5 : Inv X pins σ H4 { s4 with heap := s4.heap.push { cls := .type "slice", data := .fields #[vl, vu, vs] } } := I4.kept (t' := s4.toks) fun b ob q => Heap.get?_push_of_some _ q
  obtain ⟨B, G, lk', LA, σ0, e, s0, rs, c, a0, pr, hd, kk⟩ := q1
  obtain ⟨r, rfl, h1⟩ := GW.p1 pr
  obtain ⟨d, rfl, h2⟩ := one_form hd (fun _ => rfl) (fun _ => rfl) (fun _ => rfl)
  cases d with
  | list ds =>
    cases h2
    obtain ⟨p, xs, rfl, t1, q1⟩ := h1.list a0.sub
    cases r1
    obtain ⟨its, r, ht, hz⟩ := I5.list (SqL.of t1)
    have hlen := r.length
    refine tail_any (ops := [.ref p, .ref s4.heap.objs.size]) ht.isList.typeIs (PySem.slot_list_getitem.lookup) ?_ (by with_unfolding_all rfl)
    refine wpAny_getItem_list_slice ht.isList (Heap.IsSliceOf.new _ vl vu vs) pl pu ps (by decide) ?_ (by rw [List.size_toArray]; omega)
    rw [PySem.W.krv_pick]
    refine ⟨.ref _, _, I5.laid (t' := s4.toks) (o := .lst xs.reverse) (fun b ob q => Heap.get?_push_of_some _ q) (Nat.le_refl _) ?_, rfl, fin_l a0 kk (dpA_rev q1) (I5.hok.fresh (Nat.le_refl _))⟩
    exact ⟨by rw [List.length_reverse]; exact hz, _, 0, r.reverse, Heap.get?_push_size _ rfl⟩
  | tuple ds =>
    cases h2
    obtain ⟨p, o, xs, rfl, n, t1, g1, q1⟩ := h1.tup a0.sub
    cases r1
    obtain ⟨its, r, ht, hz⟩ := I5.tuple (sqT_frz t1)
    have hlen := r.length
    refine tail_any (ops := [.ref p, .ref s4.heap.objs.size]) ht.typeIs (PyProof.Rows.slot_tuple_getitem.lookup) ?_ (by with_unfolding_all rfl)
    cases pl
    cases pu
    cases ps with
    | int i t =>
      refine getItem_tuple_rev (tk := t) ht (Heap.IsSliceOf.new _ _ _ _) ?_ (by rw [List.size_toArray]; omega)
      refine ⟨.ref _, _, I5.laid (t' := s4.toks) (o := .frz (tupO its.reverse) (.tup xs.reverse)) (fun b ob q => Heap.get?_push_of_some _ q) (Nat.le_refl _) ?_, rfl, fin_t a0 kk (dpA_rev q1) rfl (I5.hok.fresh (Nat.le_refl _))⟩
      exact tup_ok r.reverse (by rw [List.length_reverse]; exact hz) (Heap.get?_push_size _ rfl)
  | _ => cases h2

inductive Blt where
  | ty (T : String) | fn (id : String)
/-- name, operation, how many arguments -/
def bltOf : List (Str × Op × Nat) := [("len", .len, 1), ("tuple", .tuple, 1), ("list", .list, 1), ("int", .int, 1), ("repr", .repr, 1), ("abs", .abs, 1), ("min", .min2, 2), ("max", .max2, 2)]
theorem starEach_one {e : Expr} {es : List Expr} (h : notStar e = true) (env : Env) : starEach (e :: es) env = (false, eval e env) :: starEach es env := starEach_cons h es env
theorem call1_mono {o : Op} {σ : L2.St} {H : Hp} {Q : VK} (h : tE W X.K lk (.op o (.cons ia .nil)) σ H Q) : tCB (fun xs H Q => ∃ x, xs = [x] ∧ rO X.K W.A o [x] H Q) (tAs W X.K lk (.cons ia .nil)) σ H Q := by
  obtain ⟨B, G, LA, e, s, rs, e', s', a0, ev, k⟩ := tE_op h
  refine ⟨B, G, LA, e, s, rs, e', s', a0, ev, fun vs G1 H1 a1 ext pr => ?_⟩
  have hl : ∃ x, vs = [x] := by
    rw [evAs_cons] at ev
    obtain ⟨⟨x, e2, s2⟩, g1, g2⟩ := bind_some ev
    obtain ⟨⟨ys, e3, s3⟩, g3, g4⟩ := map_some g2
    cases g4
    cases g3
    cases pr with
    | cons h t => cases t; exact ⟨_, rfl⟩
  obtain ⟨x, rfl⟩ := hl
  exact ⟨x, rfl, k _ G1 H1 a1 ext pr⟩
theorem call2_mono {o : Op} {σ : L2.St} {H : Hp} {Q : VK} (h : tE W X.K lk (.op o (.cons ia (.cons ib .nil))) σ H Q) : tCB (fun xs H Q => ∃ x y, xs = [x, y] ∧ rO X.K W.A o [x, y] H Q) (tAs W X.K lk (.cons ia (.cons ib .nil))) σ H Q := by
  obtain ⟨B, G, LA, e, s, rs, e', s', a0, ev, k⟩ := tE_op h
  refine ⟨B, G, LA, e, s, rs, e', s', a0, ev, fun vs G1 H1 a1 ext pr => ?_⟩
  have hl : ∃ x y, vs = [x, y] := by
    rw [evAs_cons] at ev
    obtain ⟨⟨x, e2, s2⟩, g1, g2⟩ := bind_some ev
    obtain ⟨⟨ys, e3, s3⟩, g3, g4⟩ := map_some g2
    cases g4
    rw [evAs_cons] at g3
    obtain ⟨⟨y, e4, s4⟩, g5, g6⟩ := bind_some g3
    obtain ⟨⟨zs, e5, s5⟩, g7, g8⟩ := map_some g6
    cases g8
    cases g7
    cases pr with
    | cons h t => cases t with
      | cons h' t' => cases t'; exact ⟨_, _, rfl⟩
  obtain ⟨x, y, rfl⟩ := hl
  exact ⟨x, y, rfl, k _ G1 H1 a1 ext pr⟩
variable {x : Str} {p : Pos}
theorem s_call1 (g : GX X W N sc fs) {o : Op} (hx : x ∈ (["range", "len", "tuple", "list", "int", "repr", "abs", "min", "max", "enumerate"] : List Str))
    (hgl : glB sc x = true) (ns : notStar a = true) (h : (∃ id, bootBuiltins x = some (.builtin id) ∧ CallR X (.builtin id) (fun xs H Q => ∃ x, xs = [x] ∧ rO X.K W.A o [x] H Q)) ∨ (∃ T, bootBuiltins x = some (.type T) ∧ CallR X (.type T) (fun xs H Q => ∃ x, xs = [x] ∧ rO X.K W.A o [x] H Q)))
    (ha : PE X a (tA W X.K lk ia)) : PE X (.Call (.Name x p) [a] [] pos) (tE W X.K lk (.op o (.cons ia .nil))) := by
  obtain ⟨h1, h2, h3⟩ := g.gl hgl
  rcases h with ⟨id, hb, hc⟩ | ⟨T, hb, hc⟩
  · exact pe_weak (pe_callB hc h1 (g.blt x hx) hb (s_acons ns ha s_anil) h3 h2 (starEach_one ns _) rfl) fun σ H Q h => call1_mono h
  · exact pe_weak (pe_callTy hc h1 (g.blt x hx) hb (s_acons ns ha s_anil) h3 h2 (starEach_one ns _) rfl) fun σ H Q h => call1_mono h
theorem s_call2 (g : GX X W N sc fs) {o : Op} (hx : x ∈ (["range", "len", "tuple", "list", "int", "repr", "abs", "min", "max", "enumerate"] : List Str))
    (hgl : glB sc x = true) (ns : notStar a = true) (ns2 : notStar b = true) (h : ∃ id, bootBuiltins x = some (.builtin id) ∧ CallR X (.builtin id) (fun xs H Q => ∃ x y, xs = [x, y] ∧ rO X.K W.A o [x, y] H Q))
    (ha : PE X a (tA W X.K lk ia)) (hb : PE X b (tA W X.K lk ib)) : PE X (.Call (.Name x p) [a, b] [] pos) (tE W X.K lk (.op o (.cons ia (.cons ib .nil)))) := by
  obtain ⟨h1, h2, h3⟩ := g.gl hgl
  obtain ⟨id, hb', hc⟩ := h
  exact pe_weak (pe_callB hc h1 (g.blt x hx) hb' (s_acons ns ha (s_acons ns2 hb s_anil)) h3 h2 (starEach_one ns _) (star_none (by simp [ns2]) _ _)) fun σ H Q h => call2_mono h
theorem s_len (g : GX X W N sc fs) (hgl : glB sc "len" = true) (ns : notStar a = true) (ha : PE X a (tA W X.K lk ia)) : PE X (.Call (.Name "len" p) [a] [] pos) (tE W X.K lk (.op .len (.cons ia .nil))) :=
  s_call1 g (by simp) hgl ns (.inl ⟨_, boot_len, c_len⟩) ha
theorem s_tuple (g : GX X W N sc fs) (hgl : glB sc "tuple" = true) (ns : notStar a = true) (ha : PE X a (tA W X.K lk ia)) : PE X (.Call (.Name "tuple" p) [a] [] pos) (tE W X.K lk (.op .tuple (.cons ia .nil))) :=
  s_call1 g (by simp) hgl ns (.inr ⟨_, boot_tuple, c_tuple⟩) ha
theorem s_list (g : GX X W N sc fs) (hgl : glB sc "list" = true) (ns : notStar a = true) (ha : PE X a (tA W X.K lk ia)) : PE X (.Call (.Name "list" p) [a] [] pos) (tE W X.K lk (.op .list (.cons ia .nil))) :=
  s_call1 g (by simp) hgl ns (.inr ⟨_, boot_list, c_list⟩) ha
theorem s_int (g : GX X W N sc fs) (hgl : glB sc "int" = true) (ns : notStar a = true) (ha : PE X a (tA W X.K lk ia)) : PE X (.Call (.Name "int" p) [a] [] pos) (tE W X.K lk (.op .int (.cons ia .nil))) :=
  s_call1 g (by simp) hgl ns (.inr ⟨_, boot_int, c_int⟩) ha
theorem s_abs (g : GX X W N sc fs) (hgl : glB sc "abs" = true) (ns : notStar a = true) (ha : PE X a (tA W X.K lk ia)) : PE X (.Call (.Name "abs" p) [a] [] pos) (tE W X.K lk (.op .abs (.cons ia .nil))) :=
  s_call1 g (by simp) hgl ns (.inl ⟨_, boot_abs, c_abs⟩) ha
theorem s_repr (g : GX X W N sc fs) (hgl : glB sc "repr" = true) (ns : notStar a = true) (ha : PE X a (tA W X.K lk ia)) : PE X (.Call (.Name "repr" p) [a] [] pos) (tE W X.K lk (.op .repr (.cons ia .nil))) :=
  s_call1 g (by simp) hgl ns (.inl ⟨_, boot_repr, c_repr g.gu g.units⟩) ha
theorem s_min (g : GX X W N sc fs) (hgl : glB sc "min" = true) (ns : notStar a = true) (ns2 : notStar b = true) (ha : PE X a (tA W X.K lk ia)) (hb : PE X b (tA W X.K lk ib)) : PE X (.Call (.Name "min" p) [a, b] [] pos) (tE W X.K lk (.op .min2 (.cons ia (.cons ib .nil)))) :=
  s_call2 g (by simp) hgl ns ns2 ⟨_, boot_min, c_min2 g.calm⟩ ha hb
theorem s_max (g : GX X W N sc fs) (hgl : glB sc "max" = true) (ns : notStar a = true) (ns2 : notStar b = true) (ha : PE X a (tA W X.K lk ia)) (hb : PE X b (tA W X.K lk ib)) : PE X (.Call (.Name "max" p) [a, b] [] pos) (tE W X.K lk (.op .max2 (.cons ia (.cons ib .nil)))) :=
  s_call2 g (by simp) hgl ns ns2 ⟨_, boot_max, c_max2 g.calm⟩ ha hb
end
end GW

namespace GW
open PySem PySem.Spec PyProof.Rows L2

section
variable {X : Cx} {W : Wd} {N : List Str} {sc : Scope} {fs : List Str} {lk : List Nat} {a b c : Expr} {ia ib ic as : IR} {pos : Pos} {es : List Expr}
variable {e : Expr} {te : L2.St → Hp → (Int → Int → Hp → Prop) → Prop}
theorem rg_list {K : PySem.W.Frag} {G : Hp} (i j : Int) : DqA K G (rgV i j) (rangeL i 1 (j - i).toNat) := by
  unfold rgV rangeL
  generalize List.range (j - i).toNat = l
  induction l with
  | nil => exact .nil
  | cons n r ih =>
    rw [List.map_cons, List.map_cons]
    refine .cons ?_ ih
    rw [Int.mul_one]
    exact .int _
theorem pe_tupRgF {p pos : Pos} (hc : X.calm = true) (hg : Gl X "tuple") (hm : X.mg "tuple" = none) (he : PRg X e te) (na : starEach [e] X.env = (false, eval e X.env) :: starEach [] X.env) :
    PE X (.Call (.Name "tuple" p) [e] [] pos) (fun σ H Q => te σ H fun a b H1 => RgOk a b ∧ ∀ q o, o.dict = none → H1 q = none → Q (.ref q) (upd H1 q (.frz o (.tup (rgV a b))))) := by
  refine ⟨fun pins s σ H Q I h => ?_⟩
  refine Call_ (ld_blt I hg hm boot_tuple (PyProof.Rows.callWith_type1 (args_cons (thn (he pins s σ H _ I h) fun x s1 ⟨r, a, b, t, u, v, H1, ex, hr, I1, ok, q⟩ => args_nil ?_) na) na))
  subst ex
  obtain ⟨b1, b2, b3, b4, b5⟩ := ok
  refine call_tuple_range (n := (b - a).toNat) (I1.ok.hd hc) hr (small_one b1 b2 b3 b4) (rangeSize_nat a b) b5 fun h' tk acc hk hi => ?_
  have I2 : Inv X pins σ H1 { s1 with heap := h', toks := tk } := I1.kept hk
  refine ⟨.ref h'.objs.size, _, I2.laid (t' := tk) (o := .frz { cls := .type "tuple", data := .seq acc } (.tup (rgV a b))) (fun c o e => Heap.get?_push_of_some _ e) (Nat.le_refl _) ?_, rfl, q _ _ rfl (I2.hok.fresh (Nat.le_refl _))⟩
  have hz : (rgV a b).length ≤ sizeLine := by rw [rgV_length, sizeLine_eq]; omega
  have ea : acc = acc.toList.toArray := by simp
  rw [ea]
  exact tup_ok (vals_rg hi) hz (Heap.get?_push_size _ rfl)
theorem rng1_form {j : Int} {r : List D} (h : rng1 j = some r) : r = rangeL 0 1 (j - 0).toNat ∧ RgOk 0 j := by
  unfold rng1 at h
  split at h
  · rename_i hm
    cases h
    rw [Bool.and_eq_true] at hm
    have h1 := within_b hm.1
    have h2 := fits_le hm.2
    rw [sizeLine_eq] at h2
    refine ⟨by rw [Int.sub_zero], by omega, by omega, by omega, by omega, by omega⟩
  · cases h
theorem rng2_form {i j : Int} {r : List D} (h : rng2 i j = some r) : r = rangeL i 1 (j - i).toNat ∧ RgOk i j := by
  unfold rng2 at h
  split at h
  · rename_i hm
    cases h
    rw [Bool.and_eq_true, Bool.and_eq_true] at hm
    have h1 := within_b hm.1.1
    have h2 := within_b hm.1.2
    have h3 := fits_le hm.2
    rw [sizeLine_eq] at h3
    exact ⟨rfl, h1.1, h1.2, h2.1, h2.2, by omega⟩
  · cases h
theorem tupR1_of {x : V} {H : Hp} {Q : VK} (h : rO X.K W.A .tupR1 [x] H Q) : ∃ n, x = .int n ∧ RgOk 0 n ∧ ∀ q o, o.dict = none → H q = none → Q (.ref q) (upd H q (.frz o (.tup (rgV 0 n)))) := by
  obtain ⟨B, G, lk, LA, σ0, e, s0, rs, c, a0, pr, hd, k⟩ := h
  obtain ⟨r, rfl, h1⟩ := GW.p1 pr
  obtain ⟨d, rfl, h2⟩ := one_form hd (fun _ => rfl) (fun _ => rfl) (fun _ => rfl)
  cases d with
  | int n =>
    obtain ⟨r, hr, rfl⟩ := map_some (show (rng1 n).map _ = some c from h2)
    obtain ⟨rfl, ok⟩ := rng1_form hr
    exact ⟨n, h1.int, ok, fun q o hn hq => fin_t a0 k (rg_list 0 n) hn hq⟩
  | _ => cases h2
theorem lstR1_of {x : V} {H : Hp} {Q : VK} (h : rO X.K W.A .lstR1 [x] H Q) : ∃ n, x = .int n ∧ RgOk 0 n ∧ ∀ q, H q = none → Q (.ref q) (upd H q (.lst (rgV 0 n))) := by
  obtain ⟨B, G, lk, LA, σ0, e, s0, rs, c, a0, pr, hd, k⟩ := h
  obtain ⟨r, rfl, h1⟩ := GW.p1 pr
  obtain ⟨d, rfl, h2⟩ := one_form hd (fun _ => rfl) (fun _ => rfl) (fun _ => rfl)
  cases d with
  | int n =>
    obtain ⟨r, hr, rfl⟩ := map_some (show (rng1 n).map _ = some c from h2)
    obtain ⟨rfl, ok⟩ := rng1_form hr
    exact ⟨n, h1.int, ok, fun q hq => fin_l a0 k (rg_list 0 n) hq⟩
  | _ => cases h2
variable {p p' : Pos}
abbrev gNames : List Str := ["range", "len", "tuple", "list", "int", "repr", "abs", "min", "max", "enumerate"]
theorem s_tupR1 (g : GX X W N sc fs) (h1 : glB sc "tuple" = true) (h2 : glB sc "range" = true) (ns : notStar a = true) (ha : PE X a (tA W X.K lk ia)) {pos' : Pos} :
    PE X (.Call (.Name "tuple" p) [.Call (.Name "range" p') [a] [] pos'] [] pos) (tE W X.K lk (.op .tupR1 (.cons ia .nil))) :=
  pe_weak (pe_tupRgF g.calm (g.gl h1).1 (g.blt "tuple" (by simp)) (prg_1 (g.gl h2).1 (g.blt "range" (by simp)) ha (starEach_one ns _)) rfl) fun σ H Q h => tAs_one (tE_op h) fun _ _ q => tupR1_of q
theorem s_lstR1 (g : GX X W N sc fs) (h1 : glB sc "list" = true) (h2 : glB sc "range" = true) (ns : notStar a = true) (ha : PE X a (tA W X.K lk ia)) {pos' : Pos} :
    PE X (.Call (.Name "list" p) [.Call (.Name "range" p') [a] [] pos'] [] pos) (tE W X.K lk (.op .lstR1 (.cons ia .nil))) :=
  pe_weak (pe_listRg g.calm (g.gl h1).1 (g.blt "list" (by simp)) (prg_1 (g.gl h2).1 (g.blt "range" (by simp)) ha (starEach_one ns _)) rfl) fun σ H Q h => tAs_one (tE_op h) fun _ _ q => lstR1_of q
/-- tuple(range(i, j, -1)) -/
theorem rgC_list {K : PySem.W.Frag} {G : Hp} (i c : Int) (n : Nat) : DqA K G ((List.range n).map fun k => V.int (i + (k : Nat) * c)) (rangeL i c n) := by
  unfold rangeL
  generalize List.range n = l
  induction l with
  | nil => exact .nil
  | cons n r ih =>
    rw [List.map_cons, List.map_cons]
    exact .cons (.int _) ih
theorem rng3_form {i j c : Int} {r : List D} (h : rng3 i j c = some r) : c = -1 ∧ r = rangeL i (-1) (i - j).toNat ∧ RgC i j (-1) (i - j).toNat ∧ (i - j).toNat ≤ 2 ^ 24 := by
  unfold rng3 at h
  split at h
  · rename_i hm
    cases h
    rw [Bool.and_eq_true, Bool.and_eq_true, Bool.and_eq_true] at hm
    have h1 := within_b hm.1.1.1
    have h2 := within_b hm.1.1.2
    have h3 := of_decide_eq_true hm.1.2
    have h4 := fits_le hm.2
    rw [sizeLine_eq] at h4
    exact ⟨h3, rfl, RgC.neg h1.1 h1.2 h2.1 h2.2, by omega⟩
  · cases h
theorem tupR3_form {r1 r2 r3 : Rv} {c : Ct} (hd : opD .tupR3 [r1, r2, r3] = some c) : ∃ i j k, r1 = .d (.int i) ∧ r2 = .d (.int j) ∧ r3 = .d (.int k) ∧ (rng3 i j k).map (fun r => Ct.v (.tuple r)) = some c := by
  have key : ∀ d d2 d3, opD .tupR3 [.d d, .d d2, .d d3] = some c → ∃ i j k, d = .int i ∧ d2 = .int j ∧ d3 = .int k ∧ (rng3 i j k).map (fun r => Ct.v (.tuple r)) = some c := fun d d2 d3 h => by
    cases d <;> first
      | (cases d2 <;> first
        | (cases d3 <;> first | exact ⟨_, _, _, rfl, rfl, rfl, h⟩ | exact nomatch (show none = some c from h))
        | exact nomatch (show none = some c from h))
      | exact nomatch (show none = some c from h)
  cases r1 with
  | d d =>
    cases r2 with
    | d d2 =>
      cases r3 with
      | d d3 =>
        obtain ⟨i, j, k, rfl, rfl, rfl, h⟩ := key d d2 d3 hd
        exact ⟨i, j, k, rfl, rfl, rfl, h⟩
      | k _ => exact nomatch (show none = some c from hd)
      | t _ => exact nomatch (show none = some c from hd)
    | k _ => cases r3 <;> exact nomatch (show none = some c from hd)
    | t _ => cases r3 <;> exact nomatch (show none = some c from hd)
  | k _ => cases r2 <;> cases r3 <;> exact nomatch (show none = some c from hd)
  | t _ => cases r2 <;> cases r3 <;> exact nomatch (show none = some c from hd)
theorem vals_rgC {i c : Int} {acc : Array Value} {n : Nat} (h : ItemsOf (fun k v => ∃ t, v = .int (i + k * c) t) acc n) : Vals ((List.range n).map fun k => V.int (i + (k : Nat) * c)) acc.toList := by
  have e : acc.toList.length = n := by rw [Array.length_toList]; exact h.1
  rw [← e]
  refine vals_of_get acc.toList _ fun j u hj => ?_
  obtain ⟨t, rfl⟩ := h.2 j u (by rw [← hj, Array.getElem?_toList])
  exact ⟨t, rfl⟩
theorem vals_three {x y z : V} {us : List Value} (r : Vals [x, y, z] us) : ∃ u v w, us = [u, v, w] ∧ RelV x u ∧ RelV y v ∧ RelV z w := by
  cases r with
  | cons h1 t => cases t with
    | cons h2 t => cases t with
      | cons h3 t => cases t; exact ⟨_, _, _, rfl, h1, h2, h3⟩
theorem tA_mono {ir : IR} {σ : L2.St} {H : Hp} {Q Q' : VK} (h : tA W X.K lk ir σ H Q) (w : ∀ v H, Q v H → Q' v H) : tA W X.K lk ir σ H Q' := by
  obtain ⟨B, G, LA, e, s, r, e', s', a, ev, k⟩ := h
  exact ⟨B, G, LA, e, s, r, e', s', a, ev, fun v G1 H1 a1 ext1 r1 => w _ _ (k v G1 H1 a1 ext1 r1)⟩
theorem tAs_three {ia ib ic : IR} {σ : L2.St} {H : Hp} {R : V → V → V → Hp → Prop} {Q : List V → Hp → Prop} (h : tAs W X.K lk (.cons ia (.cons ib (.cons ic .nil))) σ H Q) (hR : ∀ x y z H, Q [x, y, z] H → R x y z H) :
    tA W X.K lk ia σ H fun x H1 => tA W X.K lk ib σ H1 fun y H2 => tA W X.K lk ic σ H2 fun z H3 => R x y z H3 :=
  tA_mono (tAs_cons h) fun x H1 q => tAs_two q fun y z H q' => hR x y z H q'
theorem s_tupR3 (g : GX X W N sc fs) (h1 : glB sc "tuple" = true) (h2 : glB sc "range" = true) (ns : notStar a = true) (nb : notStar b = true) (nc : notStar c = true)
    (ha : PE X a (tA W X.K lk ia)) (hb : PE X b (tA W X.K lk ib)) (hc : PE X c (tA W X.K lk ic)) {pos' : Pos} :
    PE X (.Call (.Name "tuple" p) [.Call (.Name "range" p') [a, b, c] [] pos'] [] pos) (tE W X.K lk (.op .tupR3 (.cons ia (.cons ib (.cons ic .nil))))) := by
  refine pe_weak (t := fun σ H Q => tA W X.K lk ia σ H fun x H1 => tA W X.K lk ib σ H1 fun y H2 => tA W X.K lk ic σ H2 fun z H3 => rO X.K W.A .tupR3 [x, y, z] H3 Q) ?_ fun σ H Q h => tAs_three (tE_op h) fun _ _ _ _ q => q
  refine ⟨fun pins s σ H Q I h => ?_⟩
  have na : starEach [Expr.Call (.Name "range" p') [a, b, c] [] pos'] X.env = (false, eval (.Call (.Name "range" p') [a, b, c] [] pos') X.env) :: starEach [] X.env := rfl
  have ha' : PA X [a, b, c] (tCons (tA W X.K lk ia) (tCons (tA W X.K lk ib) (tCons (tA W X.K lk ic) tNil))) :=
    pa_cons ha (pa_cons hb (pa_cons hc pa_nil (starEach_one nc _)) (starEach_one nb _)) (starEach_one ns _)
  have hr : wpAny (model X.prog X.w) X.A (eval (.Call (.Name "range" p') [a, b, c] [] pos') X.env) (fun x s' => ∃ (r : Addr) (i j k : Int) (t u v : Tok) (H' : Hp), x = .ref r ∧ IsRange s'.heap r i j k t u v ∧ Inv X pins σ H' s' ∧ rO X.K W.A .tupR3 [.int i, .int j, .int k] H' Q) X.xe s := by
    refine Call_ (ld_blt I (g.gl h2).1 (g.blt "range" (by simp)) boot_range (PyProof.Rows.callWith_type1 (thn (ha'.run pos' pins s σ H (fun vs H3 => ∃ x y z, vs = [x, y, z] ∧ rO X.K W.A .tupR3 [x, y, z] H3 Q) I ?_) fun us s1 ⟨vs, H1, I1, r1, q1⟩ => ?_) (starEach_one ns _) (star_none (by simp [nb, nc]) _ _)))
    · refine tA_mono h fun x H1 h => tA_mono h fun y H2 h => tA_mono h fun z H3 h => ⟨x, y, z, rfl, h⟩
    · obtain ⟨x, y, z, rfl, q⟩ := q1
      obtain ⟨u1, u2, u3, rfl, x1, x2, x3⟩ := vals_three r1
      obtain ⟨B, G, lk, LA, σ0, e, s0, rs, c, a0, pr, hd, kk⟩ := id q
      obtain ⟨q1, q2, q3, rfl, y1, y2, y3⟩ := p3 pr
      obtain ⟨i, j, k, rfl, rfl, rfl, hh⟩ := tupR3_form hd
      obtain ⟨r, hr, _⟩ := map_some hh
      obtain ⟨rfl, _⟩ := rng3_form hr
      cases y1.int
      cases y2.int
      cases y3.int
      obtain ⟨t1, rfl⟩ := x1
      obtain ⟨t2, rfl⟩ := x2
      obtain ⟨t3, rfl⟩ := x3
      exact call_range_3 (by decide) ⟨_, i, j, -1, _, _, _, H1, rfl, IsRange.new _ _ _ _ _ _ _, I1.kept fun b u e => Heap.get?_push_of_some _ e, q⟩ (.inl (PyProof.noPylong_small (by decide)))
  refine Call_ (ld_blt I (g.gl h1).1 (g.blt "tuple" (by simp)) boot_tuple (PyProof.Rows.callWith_type1 (args_cons (thn hr fun x s1 ⟨r, i, j, k, t, u, v, H1, ex, hr, I1, q⟩ => args_nil ?_) na) na))
  subst ex
  obtain ⟨B, G, lk, LA, σ0, e, s0, rs, c, a0, pr, hd, kk⟩ := q
  obtain ⟨q1, q2, q3, rfl, y1, y2, y3⟩ := p3 pr
  obtain ⟨i', j', k', rfl, rfl, rfl, hh⟩ := tupR3_form hd
  obtain ⟨r', hr', ec⟩ := map_some hh
  obtain ⟨rfl, rfl, ⟨c0, c1, c2, c3⟩, c4⟩ := rng3_form hr'
  cases y1.int
  cases y2.int
  cases y3.int
  subst ec
  refine call_tuple_range (n := (i - j).toNat) (I1.ok.hd g.calm) hr c2 c3 c4 fun h' tk acc hk hi => ?_
  have I2 : Inv X pins σ H1 { s1 with heap := h', toks := tk } := I1.kept hk
  have hz : ((List.range (i - j).toNat).map fun k => V.int (i + (k : Nat) * (-1))).length ≤ sizeLine := by rw [List.length_map, List.length_range, sizeLine_eq]; omega
  have ea : acc = acc.toList.toArray := by simp
  refine ⟨.ref h'.objs.size, _, I2.laid (t' := tk) (o := .frz { cls := .type "tuple", data := .seq acc } (.tup ((List.range (i - j).toNat).map fun k => V.int (i + (k : Nat) * (-1))))) (fun c o e => Heap.get?_push_of_some _ e) (Nat.le_refl _) ?_, rfl, fin_t a0 kk (rgC_list i (-1) _) rfl (I2.hok.fresh (Nat.le_refl _))⟩
  rw [ea]
  exact tup_ok (vals_rgC hi) hz (Heap.get?_push_size _ rfl)

theorem indexOf_at {y : D} : ∀ {ds : List D} {j : Nat}, indexOf y ds = some j → (∃ z, ds[j]? = some z ∧ PyData.eqv z y = true) ∧ ∀ m z, m < j → ds[m]? = some z → PyData.eqv z y = false
  | [], _, h => by cases h
  | x :: r, j, h => by
    unfold indexOf at h
    split at h
    · rename_i hx
      cases h
      exact ⟨⟨x, rfl, hx⟩, fun m z hm => absurd hm (Nat.not_lt_zero _)⟩
    · rename_i hx
      obtain ⟨k, hk, rfl⟩ := map_some h
      obtain ⟨⟨z, h1, h2⟩, h3⟩ := indexOf_at hk
      refine ⟨⟨z, by simpa using h1, h2⟩, fun m z hm hz => ?_⟩
      cases m with
      | zero =>
        simp at hz
        subst hz
        simpa using hx
      | succ m => exact h3 m z (by omega) (by simpa using hz)
theorem index_form {r1 r2 : Rv} {c : Ct} (h : opD .index [r1, r2] = some c) : ∃ ds y j, (r1 = .d (.list ds) ∨ r1 = .d (.tuple ds)) ∧ r2 = .d y ∧ SeqAt.shaped (.list ds) = true ∧ SeqAt.shaped y = true ∧ indexOf y ds = some j ∧ c = .v (.int (j : Nat)) := by
  obtain ⟨d, y, rfl, rfl, hq⟩ := two_d h (fun _ _ => rfl) (fun _ r => by cases r <;> rfl) (fun _ r => by cases r <;> rfl) (fun _ _ => rfl) (fun _ _ => rfl)
  have sh : ∀ ds, SeqAt.shaped (.tuple ds) = SeqAt.shaped (.list ds) := fun ds => by
    unfold SeqAt.shaped
    rw [show (PyData.tuple ds).canLay0 = (PyData.list ds).canLay0 by simp [PyData.canLay0], show (PyData.tuple ds).depth = (PyData.list ds).depth by simp [PyData.depth]]
  cases d with
  | list ds =>
    have hq' : (if SeqAt.shaped (.list ds) && SeqAt.shaped y then (indexOf y ds).map fun j => Ct.v (.int (j : Nat)) else none) = some c := hq
    split at hq'
    · rename_i hm
      rw [Bool.and_eq_true] at hm
      obtain ⟨j, hj, rfl⟩ := map_some hq'
      exact ⟨ds, y, j, Or.inl rfl, rfl, hm.1, hm.2, hj, rfl⟩
    · cases hq'
  | tuple ds =>
    have hq' : (if SeqAt.shaped (.tuple ds) && SeqAt.shaped y then (indexOf y ds).map fun j => Ct.v (.int (j : Nat)) else none) = some c := hq
    split at hq'
    · rename_i hm
      rw [Bool.and_eq_true] at hm
      obtain ⟨j, hj, rfl⟩ := map_some hq'
      exact ⟨ds, y, j, Or.inr rfl, rfl, by rw [← sh]; exact hm.1, hm.2, hj, rfl⟩
    · cases hq'
  | _ => exact nomatch (show none = some c from hq)
end
end GW

namespace GW
open PySem PySem.Spec PyProof.Rows L2

section
variable {X : Cx} {W : Wd} {N : List Str} {sc : Scope} {fs : List Str} {lk : List Nat} {a b c : Expr} {ia ib ic as : IR} {pos : Pos} {es : List Expr}
def rIx (K : PySem.W.Frag) (A : Sa) : V → List V → Hp → VK → Prop := fun x xs H Q => ∃ y, xs = [y] ∧ rO K A .index [x, y] H Q
theorem mt_index_list (hu : X.A.units + 65 < cLine) {G H : Hp} {pins : List (Addr × Obj)} {s : Shared} {σ : L2.St} {x y : V} {v u : Value} {Q : VK} {ds : List D} {d : D} {j : Nat} (hs : Same G H) (I : Inv X pins σ H s) (rx : RelV x v) (ry : RelV y u)
    (h1 : RvOk X.K G H (.d (.list ds)) x) (h2 : RvOk X.K G H (.d d) y) (sl : SeqAt.shaped (.list ds) = true) (sd : SeqAt.shaped d = true) (hj : indexOf d ds = some j) (q : Q (.int (j : Nat)) H) :
    s.TypeIs v "list" ∧ (∀ a, v = .ref a → ∃ ob, s.heap.get? a = some ob ∧ ob.dict = none) ∧ wpAny (model X.prog X.w) X.A (call (.builtin "list.index") [v, u]) (EP X pins σ Q) X.xe s := by
  obtain ⟨p, xs, rfl, t1, q1⟩ := h1.list hs
  obtain ⟨⟨z, hz, hzj⟩, hno⟩ := indexOf_at hj
  obtain ⟨k1, k2⟩ := tyV_is I rx (T := "list") (Or.inl ⟨rfl, _, SqL.of t1⟩)
  refine ⟨k1, k2, mt_indexD hu pins s σ H _ [y] v [u] Q I rx (.cons ry .nil) ⟨p, y, d, ds, j, z, rfl, rfl, h1.dp hs, h2.dp hs, sl, sd, hz, hzj, fun m z' hm hz' => hno m z' hm hz', q⟩⟩
theorem mt_index_tup (hu : X.A.units + 65 < cLine) {G H : Hp} {pins : List (Addr × Obj)} {s : Shared} {σ : L2.St} {x y : V} {v u : Value} {Q : VK} {ds : List D} {d : D} {j : Nat} (hs : Same G H) (I : Inv X pins σ H s) (rx : RelV x v) (ry : RelV y u)
    (h1 : RvOk X.K G H (.d (.tuple ds)) x) (h2 : RvOk X.K G H (.d d) y) (sl : SeqAt.shaped (.list ds) = true) (sd : SeqAt.shaped d = true) (hj : indexOf d ds = some j) (q : Q (.int (j : Nat)) H) :
    s.TypeIs v "tuple" ∧ (∀ a, v = .ref a → ∃ ob, s.heap.get? a = some ob ∧ ob.dict = none) ∧ wpAny (model X.prog X.w) X.A (call (.builtin "tuple.index") [v, u]) (EP X pins σ Q) X.xe s := by
  obtain ⟨p, o, xs, rfl, nd, t1, g1, q1⟩ := h1.tup hs
  obtain ⟨⟨z, hz, hzj⟩, hno⟩ := indexOf_at hj
  cases rx
  obtain ⟨bs, r1⟩ := Dp.reads I d y u (h2.dp hs) ry
  have hxs : PyData.canLayAll0 ds = true := SeqAt.canLay_of_shaped sl
  have hroom : X.A.units + 1 + min (PyData.depthAll ds) d.depth < cLine := room_in_shaped sd hu
  obtain ⟨its, rv, ⟨⟨cls, dd, data, sls⟩, ho, hc, n, hdt⟩, hlen⟩ := I.tuple (sqT_frz t1)
  simp only at hc hdt
  subst hc hdt
  have hob : s.heap.get? p = some o := (I.hok p _ t1).1
  have edd : dd = none := by
    rw [ho] at hob
    cases hob
    exact nd
  subst edd
  obtain ⟨as, h4⟩ := Dp.readsAll I ds _ its (dpA_same hs q1).dp rv
  have hn : its.length = ds.length := SeqAt.ReadsAll.length ds its as h4
  have hmap : its.map (SeqAt.readOf s.heap) = ds := SeqAt.readsAll_map ds its as hxs h4
  obtain ⟨hjd, _⟩ := List.getElem?_eq_some_iff.mp hz
  have hjl : j < its.length := by omega
  have hj' : j < its.toArray.size := by simpa using hjl
  have at_ : ∀ (m : Nat) (hm : m < its.toArray.size) (z' : PyData), ds[m]? = some z' → SeqAt.readOf s.heap its.toArray[m] = z' := by
    intro m hm z' hz'
    have hml : m < its.length := by simpa using hm
    rw [← hmap, List.getElem?_map, List.getElem?_eq_getElem hml] at hz'
    have e1 : SeqAt.readOf s.heap its[m] = z' := Option.some.inj (show some (SeqAt.readOf s.heap its[m]) = some z' from hz')
    simpa using e1
  refine ⟨⟨_, ho, rfl⟩, fun a e => by cases e; exact ⟨_, ho, rfl⟩, ?_⟩
  refine call_meets PySem.F.slot_tuple_index ⟨_, ho, rfl⟩ PySem.F.entry_tuple_index (PySem.F.args_tuple_index_2 _ _)
    (TI.tuple_indexAt p its.toArray n none sls u (fun u => PyData.eqv (SeqAt.readOf s.heap u) d) j hj' ?_ ?_) ⟨ho, SeqAt.items_eqAt (vs := its.toArray) (show ReadsAll s.heap its.toArray.toList ds as from h4) r1 hxs (SeqAt.canLay_of_shaped sd) hroom, ?_⟩
  · show PyData.eqv (SeqAt.readOf s.heap its.toArray[j]) d = true
    rw [at_ j hj' z hz]
    exact hzj
  · intro m hm hmj
    have hmd : m < ds.length := by omega
    have hz' : ds[m]? = some ds[m] := List.getElem?_eq_getElem hmd
    show PyData.eqv (SeqAt.readOf s.heap its.toArray[m]) d = false
    rw [at_ m hm _ hz']
    exact hno m _ hmj hz'
  · exact ⟨.int (j : Nat), H, I.tok _, ⟨_, rfl⟩, q⟩
/-- what is called on a name -/
def plainO : Expr → Bool
  | .Call _ _ _ _ => false
  | _ => true
theorem attr_base {o : Expr} (h : plainO o = true) (m : Str) (env : Env) (w : Sem Value) : attributeBase o m env w = w := by
  cases o <;> first
    | rfl
    | cases h
theorem few1 {e : Expr} (h : notStar e = true) (cpos : Pos) (env : Env) : ((backTo cpos (starEach [e] env)).all (fun x => !x.1) && (backToKw cpos (keywordEach [] env)).all (fun x => x.1.isSome)
      && decide (([e] : List Expr).length + ([] : List Keyword).length + (if ([] : List Keyword).isEmpty then 0 else 1) < 30)) = true := by
  rw [starEach_cons h]
  rfl
/-- what is known of the argument's kind ahead of it -/
theorem s_index (g : GX X W N sc fs) {apos : Pos} (po : plainO a = true) (na : notLend ia = true) (ns : notStar b = true) (hl : (apos.endLine == pos.line) = true) (ha : PE X a (tA W X.K lk ia)) (hb : PE X b (tA W X.K lk ib)) :
    PE X (.Call (.Attribute a "index" apos) [b] [] pos) (tE W X.K lk (.op .index (.cons ia (.cons ib .nil)))) := by
  refine ⟨fun pins s σ H Q I h => ?_⟩
  have hu := g.units
  obtain ⟨B, G, LA, e, s0, c0, e', s', a0, ev, k⟩ := h
  obtain ⟨⟨rs, e1, s1⟩, h1, h2⟩ := bind_some (show (evAs W.gl W.calls _ lk e s0).bind _ = some (c0, e', s') from ev)
  obtain ⟨xs, h3, h4⟩ := bind_some h2
  obtain ⟨c', h5, h6⟩ := map_some h4
  cases h6
  rw [evAs_cons] at h1
  obtain ⟨⟨x, e2, s2⟩, g1, g2⟩ := bind_some h1
  obtain ⟨⟨ys, e3, s3⟩, g3, g4⟩ := map_some g2
  cases g4
  rw [evAs_cons] at g3
  obtain ⟨⟨y, e4, s4⟩, g5, g6⟩ := bind_some g3
  obtain ⟨⟨zs, e5, s5⟩, g7, g8⟩ := map_some g6
  cases g8
  cases g7
  obtain ⟨d1, rfl⟩ := evA_d na g1
  obtain ⟨x1, k1, k2⟩ := bind_some (show (res1 e' (.d d1)).bind _ = some xs from h3)
  cases k1
  obtain ⟨xs2, k3, rfl⟩ := map_some k2
  obtain ⟨y1, k4, k5⟩ := bind_some (show (res1 e' y).bind _ = some xs2 from k3)
  obtain ⟨xs3, k6, rfl⟩ := map_some k5
  cases k6
  obtain ⟨ds, yd, j, hd, rfl, sl, sd, hj, rfl⟩ := index_form h5
  rcases hd with hd | hd
  · cases hd
    refine wpAny_Call_method_late (attr_base po _ _ _) (few1 ns _ _) hl rfl (thn (ha.run pins s σ H (fun v H1 => ∃ G1, AOk X.K W.A B G1 H1 lk LA σ e2 s2 ∧ Ext B G G1 ∧ Dq X.K G1 v (.list ds)) I ⟨B, G, LA, e, s0, _, e2, s2, a0, g1, fun v1 G1 H1 a1 ext1 r1 => ⟨G1, a1, ext1, r1⟩⟩) fun v s1 ⟨x, H1, I1, r1, G1, a1, ext1, q1⟩ => ?_)
    obtain ⟨p, xs, rfl, t1, qq⟩ := RvOk.list (K := X.K) (H := H1) a1.sub (Or.inl q1)
    obtain ⟨m1, m2⟩ := tyV_is I1 r1 (T := "list") (Or.inl ⟨rfl, _, SqL.of t1⟩)
    refine ⟨"list", "list.index", PySem.F.plainAttrs_list, PySem.F.slot_list_index, PySem.F.type_list_index, m1, m2, ?_⟩
    rw [starEach_cons ns]
    refine Calls.callWith_builtin rfl (Calls.evalArgs_plain (Calls.spliced_cons (thn (hb.run pins s1 σ H1 (fun u H2 => ∃ G2, AOk X.K W.A B G2 H2 lk LA σ e' s' ∧ Ext B G1 G2 ∧ ArOk X.K G2 σ y u) I1 ⟨B, G1, LA, e2, s2, y, e', s', a1, g5, fun v2 G2 H2 a2 ext2 r2 => ⟨G2, a2, ext2, r2⟩⟩) fun uv s2 ⟨u, H2, I2, r2, G2, a2, ext2, q2⟩ => Calls.spliced_nil ?_)))
    exact (mt_index_list (by omega) a2.sub I2 r1 r2 (Or.inl (dp_same ext2.1 q1)) (q2.res a2 (Same.refl _) k4) sl sd hj (k _ G2 H2 a2 (ext1.trans ext2) (COk.v (.int _)))).2.2
  · cases hd
    refine wpAny_Call_method_late (attr_base po _ _ _) (few1 ns _ _) hl rfl (thn (ha.run pins s σ H (fun v H1 => ∃ G1, AOk X.K W.A B G1 H1 lk LA σ e2 s2 ∧ Ext B G G1 ∧ Dq X.K G1 v (.tuple ds)) I ⟨B, G, LA, e, s0, _, e2, s2, a0, g1, fun v1 G1 H1 a1 ext1 r1 => ⟨G1, a1, ext1, r1⟩⟩) fun v s1 ⟨x, H1, I1, r1, G1, a1, ext1, q1⟩ => ?_)
    obtain ⟨p, o, xs, rfl, nd, t1, gg, qq⟩ := RvOk.tup (K := X.K) (H := H1) a1.sub (Or.inl q1)
    obtain rfl : v = .ref p := r1
    have hob : s1.heap.get? p = some o := (I1.hok p _ t1).1
    obtain ⟨its, rv, ⟨ob, ho, hc, n, hdt⟩, hlen⟩ := I1.tuple (sqT_frz t1)
    have m1 : s1.TypeIs (.ref p) "tuple" := ⟨ob, ho, hc⟩
    refine ⟨"tuple", "tuple.index", PySem.F.plainAttrs_tuple, PySem.F.slot_tuple_index, PySem.F.type_tuple_index, m1, fun a e => (by cases e; exact ⟨o, hob, nd⟩), ?_⟩
    rw [starEach_cons ns]
    refine Calls.callWith_builtin rfl (Calls.evalArgs_plain (Calls.spliced_cons (thn (hb.run pins s1 σ H1 (fun u H2 => ∃ G2, AOk X.K W.A B G2 H2 lk LA σ e' s' ∧ Ext B G1 G2 ∧ ArOk X.K G2 σ y u) I1 ⟨B, G1, LA, e2, s2, y, e', s', a1, g5, fun v2 G2 H2 a2 ext2 r2 => ⟨G2, a2, ext2, r2⟩⟩) fun uv s2 ⟨u, H2, I2, r2, G2, a2, ext2, q2⟩ => Calls.spliced_nil ?_)))
    exact (mt_index_tup (by omega) a2.sub I2 (x := .ref p) rfl r2 (Or.inl (dp_same ext2.1 q1)) (q2.res a2 (Same.refl _) k4) sl sd hj (k _ G2 H2 a2 (ext1.trans ext2) (COk.v (.int _)))).2.2

theorem s_pop0 (g : GX X W N sc fs) {i : Nat} {x : Str} {p apos : Pos} (h : nmB N sc i x = true) (hl : (apos.endLine == pos.line) = true) :
    PE X (.Call (.Attribute (.Name x p) "pop" apos) [] [] pos) (tE W X.K lk (.pop0 i)) := by
  obtain ⟨n1, n2, n3⟩ := g.nm h
  obtain ⟨d1, d2, _⟩ := okName_of n3
  refine pe_weak (pe_bm0 PySem.F.plainAttrs_list PySem.F.slot_list_pop PySem.F.type_list_pop mt_pop (pe_var n1 (visB_vis n2) d1 d2) rfl hl) fun σ H Q ⟨B, G, LA, e, s, c, e', s', a, ev, k⟩ => ?_
  unfold evE at ev
  split at ev
  · cases ev
  · rename_i hlk
    have hi : i ∉ lk := fun z => hlk (by simpa using z)
    split at ev
    · rename_i ds hc
      obtain ⟨d, hd, h3⟩ := map_some ev
      cases h3
      obtain ⟨v, e1, p, xs, rfl, hp, r⟩ := a.slot i _ hc
      obtain ⟨y, hy, ry⟩ := dpA_get r hd
      rw [← dpA_len r] at hy
      refine ⟨.ref p, e1, Or.inl ⟨rfl, xs, SqL.of hp⟩, p, xs, y, rfl, rfl, hp, hy, ?_⟩
      exact k y G _ (a.change hc rfl hi e1 (c' := .l ds.dropLast) ⟨p, _, rfl, upd_same, dpA_last r⟩ rfl) Ext.refl (COk.v ry)
    · cases ev
theorem s_pop (g : GX X W N sc fs) {i : Nat} {x : Str} {p apos : Pos} (h : nmB N sc i x = true) (hl : (apos.endLine == pos.line) = true) (ns : notStar b = true) (hb : PE X b (tE W X.K lk ib)) :
    PE X (.Call (.Attribute (.Name x p) "pop" apos) [b] [] pos) (tE W X.K lk (.pop i ib)) := by
  obtain ⟨n1, n2, n3⟩ := g.nm h
  obtain ⟨d1, d2, _⟩ := okName_of n3
  refine pe_weak (pe_bm PySem.F.plainAttrs_list PySem.F.slot_list_pop PySem.F.type_list_pop mt_popAt (pe_var n1 (visB_vis n2) d1 d2) (pa_cons hb pa_nil (starEach_one ns _)) rfl (few1 ns _ _) hl (starEach_one ns _) rfl) fun σ H Q ⟨B, G, LA, e, s, c, e', s', a, ev, k⟩ => ?_
  unfold evE at ev
  split at ev
  · rename_i ds hc
    obtain ⟨⟨cn, e1, s1⟩, h1, h2⟩ := bind_some ev
    dsimp only at h2
    obtain ⟨v, ev1, p, xs, rfl, hp, r⟩ := a.slot i _ hc
    refine ⟨.ref p, ev1, Or.inl ⟨rfl, xs, SqL.of hp⟩, B, G, LA, e, s, cn, e1, s1, a, h1, fun n G1 H1 a1 ext1 cok => ?_⟩
    split at h2
    · rename_i n'
      cases (show Dq X.K G1 n (.int n') from cok.1)
      split at h2
      · cases h2
      · rename_i hlk
        have hi : i ∉ lk := fun z => hlk (by simpa using z)
        split at h2
        · rename_i ds' hc'
          split at h2
          · rename_i hw
            obtain ⟨j, hj, h3⟩ := bind_some h2
            obtain ⟨d, hd, h4⟩ := map_some h3
            cases h4
            obtain ⟨v', ev2, p', xs', rfl, hp', r'⟩ := a1.slot i _ hc'
            rw [ev1] at ev2
            cases ev2
            obtain ⟨y, hy, ry⟩ := dpA_get r' hd
            have hb := within_b hw
            refine ⟨p, xs', n', j, y, rfl, rfl, hp', by omega, by omega, by rw [dpA_len r']; exact hj, hy, ?_⟩
            exact k y G1 _ (a1.change hc' rfl hi ev1 (c' := .l (ds'.eraseIdx j)) ⟨p, _, rfl, upd_same, dpA_erase j r'⟩ rfl) ext1 (COk.v ry)
          · cases h2
        · cases h2
    · cases h2
  · cases ev

theorem evG_e {a : IR} (nl : notLend a = true) (r : IR) (lk : List Nat) (σ : Sl) (s : Src) :
    evG W.gl W.calls (.cons a r) lk σ s = (evE W.gl W.calls a lk σ s).bind fun (c, σ1, s1) => (toGa c).bind fun g => (evG W.gl W.calls r lk σ1 s1).map fun (gs, σ2, s2) => (g :: gs, σ2, s2) := by
  cases a <;> first
    | rfl
    | cases nl
end
end GW

namespace GW
open PySem PySem.Spec PyProof.Rows L2

section
variable {X : Cx} {W : Wd} {N : List Str} {sc : Scope} {fs : List Str} {lk : List Nat} {a b c : Expr} {ia ib ic ir as : IR} {pos : Pos} {es : List Expr}
/-- a row of arguments of a def -/
def tG (W : Wd) (K : PySem.W.Frag) (lk : List Nat) (ir : IR) : TA := fun σ H Q => ∃ B G LA e s gs e' s', AOk K W.A B G H lk LA σ e s ∧ evG W.gl W.calls ir lk e s = some (gs, e', s') ∧
  ∀ vs G' H', AOk K W.A B G' H' lk LA σ e' s' → Ext B G G' → Paired (GaOk K W.A G' H') gs vs → Q vs H'
theorem s_gnil : PA X [] (tG W X.K lk .nil) := by
  refine pa_weak pa_nil fun σ H Q ⟨B, G, LA, e, s, ds, e', s', a, ev, k⟩ => ?_
  cases ev
  exact k [] G H a Ext.refl .nil
theorem s_gcons (ns : notStar a = true) (nl : notLend ia = true) (ha : PE X a (tE W X.K lk ia)) (hr : PA X es (tG W X.K lk ir)) : PA X (a :: es) (tG W X.K lk (.cons ia ir)) := by
  refine pa_weak (pa_cons ha hr (starEach_cons ns es X.env)) fun σ H Q ⟨B, G, LA, e, s, gs, e', s', a, ev, k⟩ => ?_
  rw [evG_e nl] at ev
  obtain ⟨⟨c, e1, s1⟩, h1, h2⟩ := bind_some ev
  obtain ⟨g, h3, h4⟩ := bind_some h2
  obtain ⟨⟨gs', e2, s2⟩, h5, h6⟩ := map_some h4
  cases h6
  refine ⟨B, G, LA, e, s, c, e1, s1, a, h1, fun v G1 H1 a1 ext cok => ?_⟩
  have key : ∃ G2, AOk X.K W.A B G2 H1 lk LA σ e1 s1 ∧ Ext B G1 G2 ∧ ∀ G' H', Same G2 G' → GaOk X.K W.A G' H' g v := by
    cases c with
    | v d =>
      cases h3
      exact ⟨G1, a1, Ext.refl, fun G' H' sm => dp_same sm cok.1⟩
    | l ds =>
      cases h3
      obtain ⟨G2, a2, ext2, dq⟩ := a1.freeze cok (d := .list ds) rfl
      exact ⟨G2, a2, ext2, fun G' H' sm => dp_same sm dq⟩
    | s =>
      cases h3
      exact ⟨G1, a1, Ext.refl, fun G' H' sm => cok.1⟩
    | k _ => cases h3
    | t _ => cases h3
  obtain ⟨G2, a2, ext2, gok⟩ := key
  exact ⟨B, G2, LA, e1, s1, gs', e', s', a2, h5, fun vs G3 H3 a3 ext3 q => k (v :: vs) G3 H3 a3 ((ext.trans ext2).trans ext3) (.cons (gok _ _ ext3.1) q)⟩
theorem s_glend (g : GX X W N sc fs) {i : Nat} {x : Str} {p : Pos} (h : nmB N sc i x = true) (hr : PA X es (tG W X.K (i :: lk) ir)) : PA X (.Name x p :: es) (tG W X.K lk (.cons (.lend i) ir)) := by
  obtain ⟨n1, n2, n3⟩ := g.nm h
  obtain ⟨d1, d2, _⟩ := okName_of n3
  refine pa_weak (pa_cons (pe_var n1 (visB_vis n2) d1 d2) hr (starEach_cons rfl es X.env)) fun σ H Q ⟨B, G, LA, e, s, gs, e', s', a, ev, k⟩ => ?_
  obtain ⟨g0, h1, h2⟩ := bind_some (show ((at_ e i).bind lendC).bind _ = some (gs, e', s') from ev)
  obtain ⟨⟨gs', e2, s2⟩, h5, h6⟩ := map_some h2
  cases h6
  obtain ⟨c, hc, hl⟩ := bind_some h1
  obtain ⟨v, ev1, r⟩ := a.slot i c hc
  have ow : isOwn c = true := by cases c <;> first | rfl | cases hl
  obtain ⟨p', o, rfl, hp, _⟩ := r.own ow
  obtain ⟨m1, m2, m3, m4⟩ := a.own i c p' hc ow ev1
  refine ⟨.ref p', ev1, upd B p' o, G, lockA LA i p', e, s, gs', e', s', a.lock hc ow ev1 hp, h5, fun vs G3 H3 a3 ext3 q => ?_⟩
  have hp3 : H3 p' = some o := a3.frm p' o upd_same m1 m2
  have hin : i ∈ lk → B p' = some o ∧ LA i = p' := fun hi => by
    obtain ⟨e1, e2⟩ := m3 hi
    refine ⟨?_, e1.symm⟩
    cases y : B p' with
    | none => exact absurd y e2
    | some u =>
      have := a.frm p' u y m1 m2
      rw [hp] at this
      cases this
      rfl
  have hout : i ∉ lk → B p' = none ∧ G3 p' = none := fun hi => by
    obtain ⟨e1, e2⟩ := m4 hi
    refine ⟨e1, ?_⟩
    cases y : G3 p' with
    | none => rfl
    | some u =>
      rcases ext3.2 p' (some_of y) with z | z
      · exact absurd e2 z
      · rw [upd_same] at z; cases z
  have sameB : Same B (upd B p' o) := fun b u q => by
    by_cases z : b = p'
    · by_cases hi : i ∈ lk
      · rw [z] at q ⊢
        rw [upd_same, ← (hin hi).1]; exact q
      · rw [z, (hout hi).1] at q; cases q
    · rw [upd_ne z]; exact q
  refine k (.ref p' :: vs) G3 H3 (a3.unlock hin hout a.lkb) (ext3.sub sameB) (.cons ?_ q)
  cases c with
  | l ds =>
    cases hl
    obtain ⟨q', xs, e1, hq, rr⟩ := r
    cases e1
    rw [hp] at hq
    cases hq
    exact ⟨p', xs, rfl, hp3, dpA_same ext3.1 rr, m1, m2⟩
  | k kvs =>
    cases hl
    obtain ⟨q', xs, e1, hq, rr⟩ := r
    cases e1
    rw [hp] at hq
    cases hq
    exact ⟨p', xs, rfl, hp3, kv_same ext3.1 rr, m1, m2⟩
  | t kvs =>
    cases hl
    obtain ⟨q', xs, e1, hq, rr⟩ := r
    cases e1
    rw [hp] at hq
    cases hq
    exact ⟨p', xs, rfl, hp3, kv_same ext3.1 rr, m1, m2⟩
  | v _ => cases ow
  | s => cases ow
/-- f(e, ..) -/
theorem s_call (g : GX X W N sc fs) {f : Nat} {x : Str} {p : Pos} (hn : W.name f = some x) (hgl : glB sc x = true) (hst : (a :: es).all notStar = true) (ha : PA X (a :: es) (tG W X.K lk as)) :
    PE X (.Call (.Name x p) (a :: es) [] pos) (tE W X.K lk (.call f as)) := by
  obtain ⟨k1, k2, k3⟩ := g.gl hgl
  obtain ⟨fa, fd, ps, m1, m2, m3, m4⟩ := g.defs f x hn
  rw [List.all_cons, Bool.and_eq_true] at hst
  refine pe_weak (pe_callG m4 g.gu g.room k1 m1 m2 m3 ha k2 (starEach_cons hst.1 _ _) (star_none hst.2 _ _)) fun σ H Q ⟨B, G, LA, e, s, c, e', s', a, ev, k⟩ => ?_
  obtain ⟨⟨gs, e1, s1⟩, h1, h2⟩ := bind_some (show (evG W.gl W.calls as lk e s).bind _ = some (c, e', s') from ev)
  obtain ⟨⟨c', s2⟩, h3, h4⟩ := map_some h2
  cases h4
  refine ⟨B, G, LA, e, s, gs, e', s1, a, h1, fun vs G1 H1 a1 ext1 pr => ?_⟩
  refine ⟨G1, gs, s1, c, s', a1.sub, a1.src, a1.ngd, a1.ngc, pr, h3, fun v G2 H2 hs ext2 fr so nd nc ro => ?_⟩
  exact k v G2 H2 (a1.after hs ext2 fr so nd nc) (ext1.trans (a1.extB ext2)) (ro.cok a1)

theorem s_cint {i : Int} {j : Nat} : PE X (.Constant (.int i) j pos) (tE W X.K lk (.con (.int i))) := s_con pe_int fun _ => .int i
theorem s_cbl {t : Bool} {j : Nat} : PE X (.Constant (.bool t) j pos) (tE W X.K lk (.con (.bool t))) := s_con pe_bl fun _ => .bl t
theorem s_cnon {j : Nat} : PE X (.Constant .none j pos) (tE W X.K lk (.con .none)) := s_con pe_non fun _ => .non
theorem s_cstr {x : Str} {j : Nat} : PE X (.Constant (.str x) j pos) (tE W X.K lk (.con (.str x))) := s_con pe_str fun _ => .str x
theorem s_name (g : GX X W N sc fs) {i : Nat} {x : Str} {p : Pos} (h : nmB N sc i x = true) : PE X (.Name x p) (tE W X.K lk (.var i)) := let ⟨h1, h2, h3⟩ := g.nm h; s_var h1 h2 h3
theorem s_mov (g : GX X W N sc fs) {i : Nat} {x : Str} {p : Pos} (h : nmB N sc i x = true) : PE X (.Name x p) (tE W X.K lk (.mv i)) := let ⟨h1, h2, h3⟩ := g.nm h; s_mv h1 h2 h3
theorem s_lend (g : GX X W N sc fs) {i : Nat} {x : Str} {p : Pos} (h : nmB N sc i x = true) : PE X (.Name x p) (tA W X.K lk (.lend i)) := let ⟨h1, h2, h3⟩ := g.nm h; s_alend h1 h2 h3
end

section
variable {X : Cx} {W : Wd} {N : List Str} {sc : Scope} {fs : List Str} {lk : List Nat} {pos : Pos}
/-- a row of keys and values, item by item -/
inductive Prs (X : Cx) (W : Wd) (lk : List Nat) : List (Option Expr) → List Expr → IR → IR → Prop
  | nil {ir : IR} : Prs X W lk [] [] ir ir
  | cons {k v : Expr} {ks : List (Option Expr)} {vs : List Expr} {ik iv ir it : IR} : PE X k (tE W X.K lk ik) → PE X v (tE W X.K lk iv) → Prs X W lk ks vs ir it → Prs X W lk (some k :: ks) (v :: vs) (.cons ik (.cons iv ir)) it
end
end GW

namespace GW
open PySem PySem.Spec PyProof.Rows L2

set_option maxHeartbeats 1000000 in
theorem meets_enumB {v : Value} {o : Obj} {H : Heap → Prop} (B : Begins v o H) :
    Meets (Builtin.«enumerate.__new__» ⟨[.type "enumerate", v], []⟩) (fun _ R s => H s.heap ∧
      R (.ok (.ret (.ref (s.heap.push o).objs.size))) { s with heap := (s.heap.push o).push { cls := .type "enumerate", data := .fields #[.none, .bool false, .ref s.heap.objs.size, rawInt 0, .none, .none] } }) :=
  .of_wp fun prog w A R s h => by
    obtain ⟨hp, g, d, tk, os⟩ := s; obtain ⟨h1, h⟩ := h
    have hsub := sub_enumerate
    have q1 : ∀ {A' : Around} {E : Value → Shared → Prop} {Q : Value → Shared → Prop}, Q (.ref hp.objs.size) ⟨hp.push o, g, d, tk, os⟩ → wpAny (model prog w) A' (pyIter v) Q E ⟨hp, g, d, tk, os⟩ :=
      fun q => B.iter prog w _ _ ⟨hp, g, d, tk, os⟩ _ h1 q
    wp_walk using q1
    refine wpAny_stack_any fun st => wpAny_pure ?_
    split
    · rename_i c _ _ _ _ _
      cases (c == Value.type "enumerate")
      · wp_walk using q1
        exact ⟨_, rfl, h⟩
      · wp_walk using q1
        exact ⟨_, rfl, h⟩
    · wp_walk using q1
      exact ⟨_, rfl, h⟩
theorem call_enumB {prog : Program} {w : World} {A : Around} {E : Value → Shared → Prop} {s : Shared} {v : Value} {o : Obj} {H : Heap → Prop} {Q : Value → Shared → Prop} (B : Begins v o H) (h1 : H s.heap)
    (h : ∀ h', IsEnum h' (s.heap.objs.size + 1) s.heap.objs.size 0 .none → h'.get? s.heap.objs.size = some o → (∀ b o, s.heap.get? b = some o → h'.get? b = some o) → Q (.ref (s.heap.objs.size + 1)) { s with heap := h' }) :
    wpAny (model prog w) A (call (.type "enumerate") [v]) Q E s := by
  refine callType_new F.called_enumerate (by decide) (F.typeCall_enumerate_1 _) (F.newCall_enumerate_1 _) (fun obj => F.args_object_init_2 obj _) F.entry_enumerate_new
    (meets_enumB B) ⟨h1, ?_⟩
  have hz : (s.heap.push o).objs.size = s.heap.objs.size + 1 := Heap.size_push ..
  show _ ∧ _
  rw [hz]
  have he : IsEnum ((s.heap.push o).push { cls := .type "enumerate", data := .fields #[.none, .bool false, .ref s.heap.objs.size, rawInt 0, .none, .none] }) (s.heap.objs.size + 1) s.heap.objs.size 0 .none := by
    have := Heap.get?_push_size (s.heap.push o) (o := { cls := .type "enumerate", data := .fields #[.none, .bool false, .ref s.heap.objs.size, rawInt 0, .none, .none] }) rfl
    rw [hz] at this; exact this
  exact ⟨⟨_, he, rfl⟩, h _ he (Heap.get?_push_of_some _ (Heap.get?_push_size _ B.free)) fun b o x => Heap.get?_push_of_some _ (Heap.get?_push_of_some _ x)⟩
/-- the tuple at a, each item in a new pair -/
def IteT (K : PySem.W.Frag) (a : Addr) (xs : List V) : It :=
  ⟨fun i H => SqT K H a xs ∧ i < xs.length, fun i H v H' => ∃ T x, v = .ref T ∧ H T = none ∧ H' = upd H T (.tup [.int (i : Nat), x]) ∧ xs[i]? = some x, fun i H => SqT K H a xs ∧ i = xs.length⟩
theorem turn_enumT {P : Program} {w : World} {K : PySem.W.Frag} {elts : List Expr} {kk : Nat} {tpos : Pos} {xs : List V} (a e it : Addr) (hat : a ≠ it) (hae : a ≠ e) (hne : e ≠ it) :
    Turn P w K (.Tuple elts kk tpos) (IteT K a xs) [e, it] e (fun i h => (∃ old, IsEnum h e it ((i : Nat) : Int) old) ∧ h.IsTupleIter it a i) where
  mem := by simp
  obj := fun i h st b hb => by
    obtain ⟨⟨old, he⟩, ⟨o, ho, hc, hd⟩⟩ := st
    have e' : b = e ∨ b = it := by simpa using hb
    rcases e' with z | z
    · rw [z]; exact ⟨_, he, fun v q => nomatch q⟩
    · rw [z]; exact ⟨o, ho, fun v q => by rw [hd] at q; cases q⟩
  keep := fun i h h' st k => let ⟨⟨old, he⟩, hi⟩ := st; ⟨⟨old, k e (by simp) _ he⟩, hi.at fun o q => k it (by simp) o q⟩
  item := by
    intro X hP hw hK hc i pins s σ H E I hf st hg
    subst hP hw hK
    obtain ⟨⟨old, he⟩, hit⟩ := st
    obtain ⟨hq, hx⟩ := hg
    obtain ⟨its, rv, p, hz⟩ := I.tuple hq
    have hl := rv.length
    have hel : e < s.heap.objs.size := Heap.lt_size he
    have hil : it < s.heap.objs.size := by obtain ⟨_, q, _⟩ := hit; exact Heap.lt_size q
    have D := Draws.tuple (prog := X.prog) (w := X.w) (A := X.A.in1) (I.ok.hd hc) it a hat its.toArray
    refine wpAny_pyNext_enum_itemD D he ⟨hit, (show s.heap.IsTuple a its.toArray from p)⟩ (by simp; omega) hne (by simp [hne, Ne.symm hae]) fun u h' tk hu ho hst' hT hsz hk => ?_
    obtain ⟨x, hxx⟩ : ∃ x, xs[i]? = some x := ⟨xs[i], List.getElem?_eq_getElem hx⟩
    obtain ⟨u', hu', ru⟩ := rv.get hxx
    have eu : u' = u := by
      have hu2 : its[i]? = some u := by simpa using hu
      rw [hu'] at hu2
      exact Option.some.inj hu2
    subst eu
    refine ⟨_, rfl, wpAny_letOwnedTupleGo_enum (s := { s with heap := h', toks := tk + 1 }) ho fun h'' he' sb => ?_⟩
    have hT2 : h''.get? s.heap.objs.size = some { cls := .type "tuple", data := .seq #[.int i tk, u'] } := (sb.2 _ (Nat.ne_of_gt hel)).trans hT
    have new : ObjOk X.prog X.w (upd H s.heap.objs.size (.tup [.int (i : Nat), x])) h'' s.heap.objs.size (.tup [.int (i : Nat), x]) :=
      ⟨by show 2 ≤ sizeLine; decide, [.int i tk, u'], .cons ⟨_, rfl⟩ (.cons ru .nil), ⟨_, hT2, rfl, _, rfl⟩⟩
    have I1 : Inv X pins σ (upd H s.heap.objs.size (.tup [.int (i : Nat), x])) { s with heap := h'', toks := tk + 1 } :=
      I.turnedNew (ch := [e, it]) (fun b ob hb q => (sb.2 b (fun z => hb (by simp [z]))).trans (hk b ob (fun z => hb (by simp [z])) (fun z => hb (by simp [z])) q)) hf (Nat.le_refl _) new
    refine ⟨.ref s.heap.objs.size, _, I1, rfl, ⟨_, x, rfl, I.hok.fresh (Nat.le_refl _), rfl, hxx⟩, ⟨⟨u', ?_⟩, hst'.1.at fun o q => (sb.2 it (Ne.symm hne)).trans q⟩, fun b hb => ?_⟩
    · have e1 : ((i + 1 : Nat) : Int) = (i : Int) + 1 := by omega
      rw [e1]; exact he'
    · have hb' : b < s.heap.objs.size := by
        have e' : b = e ∨ b = it := by simpa using hb
        rcases e' with z | z
        · rw [z]; exact hel
        · rw [z]; exact hil
      rw [upd_ne (Nat.ne_of_lt hb')]
      exact (hf b hb).1
  done := by
    intro X hP hw hK hc i pins s σ H E I hf st hg
    subst hP hw hK
    obtain ⟨⟨old, he⟩, hit⟩ := st
    obtain ⟨hq, rfl⟩ := hg
    obtain ⟨its, rv, p, hz⟩ := I.tuple hq
    obtain ⟨f0, f1, f2, f3, f4, f5⟩ := hf it (by simp)
    have hl := rv.length
    have D := Draws.tuple (prog := X.prog) (w := X.w) (A := X.A.in1) (I.ok.hd hc) it a hat its.toArray
    have hsz : its.toArray.size = xs.length := by rw [List.size_toArray, hl]
    exact wpAny_pyNext_enum_endD D he (by rw [hsz]; exact ⟨hit, (show s.heap.IsTuple a its.toArray from p)⟩) fun h' eb => ⟨rfl, I.turned (t' := s.toks) (fun b o hb q => eb b o hb q) f0 f1 f3 f4 f5⟩
  self := fun A i s Q E st h => let ⟨⟨_, he⟩, _⟩ := st; wpAny_pyIter_enum he h
def iEnumT (K : PySem.W.Frag) (ta : TA) : TI := fun σ H R => ta σ H fun vs H1 => ∃ a xs, vs = [.ref a] ∧ SqT K H1 a xs ∧ H1 a ≠ none ∧ R (IteT K a xs) H1
theorem walk_enumT {K : PySem.W.Frag} {a : Addr} {xs : List V} : Walk (IteT K a xs) xs.length (fun H => SqT K H a xs) (YPair (fun i => some (.int (i : Nat))) (fun i => xs[i]?)) := by
  refine ⟨fun i _ hi q => ⟨q, hi⟩, fun _ q => ⟨q, rfl⟩, fun i H v H' _ q y => ?_⟩
  obtain ⟨T, x, h1, h2, h3, h4⟩ := y
  exact ⟨T, .int (i : Nat), x, h1, h2, h3, rfl, h4⟩
theorem pi_enumT {X : Cx} {e : Expr} {ta : TA} {p pos tpos : Pos} {elts : List Expr} {kk : Nat} (hg : Gl X "enumerate") (hm : X.mg "enumerate" = none) (ha : PA X [e] ta) (hs : starEach [e] X.env = [(false, eval e X.env)]) :
    PI X (.Tuple elts kk tpos) (.Call (.Name "enumerate" p) [e] [] pos) (iEnumT X.K ta) := by
  refine ⟨fun pins s σ H R I h => ?_⟩
  refine Call_ (ld_blt I hg hm boot_enumerate (PyProof.Rows.callWith_type1 (thn (ha.run pos pins s σ H _ I h) fun us s1 ⟨vs, H1, I1, r1, q1⟩ => ?_) hs rfl))
  obtain ⟨a, xs, ex, hq, hn, q⟩ := q1
  subst ex
  cases r1 with
  | cons r rr =>
    cases rr
    cases r
    obtain ⟨its, rv, p', hz⟩ := I1.tuple hq
    have hal : a < s1.heap.objs.size := by obtain ⟨_, q, _⟩ := p'; exact Heap.lt_size q
    refine call_enumB (begins_tuple a its.toArray) (show s1.heap.IsTuple a its.toArray from p') fun h' he hit hk => wpAny_pyIter_enum he ?_
    have I2 : Inv X pins σ H1 { s1 with heap := h' } := I1.kept (t' := s1.toks) hk
    refine ⟨s1.heap.objs.size + 1, [s1.heap.objs.size + 1, s1.heap.objs.size], _, _, H1, rfl, I2, turn_enumT a (s1.heap.objs.size + 1) s1.heap.objs.size (Nat.ne_of_lt hal) (Nat.ne_of_lt (Nat.lt_succ_of_lt hal)) (Nat.succ_ne_self _), ⟨⟨.none, he⟩, ⟨_, hit, rfl, rfl⟩⟩, fun b hb => ?_, q⟩
    have e' : b = s1.heap.objs.size + 1 ∨ b = s1.heap.objs.size := by simpa using hb
    have hle : s1.heap.objs.size ≤ b := by
      rcases e' with z | z
      · rw [z]; exact Nat.le_add_right _ _
      · rw [z]; exact Nat.le_refl _
    exact I1.fpOk hle (I1.hok.fresh hle)
end GW

namespace GW
open PySem PySem.Spec PyProof.Rows L2

section
variable {K : PySem.W.Frag} {A : Sa} {B G H G' H' : Hp} {lk : List Nat} {LA : Nat → Addr} {σ : L2.St} {e : Sl} {s s' : Src}
theorem AOk.enter {p : Addr} {o : HO} (a : AOk K A B G H lk LA σ e s) (hp : H p = none) : AOk K A (upd B p o) G (upd H p o) lk LA σ e s := by
  have b := a.new (o := o) hp
  have bn : ∀ {q}, B q ≠ none → upd B p o q ≠ none := fun {q} z => by
    by_cases y : q = p
    · rw [y, upd_same]; simp
    · rw [upd_ne y]; exact z
  refine { sub := b.sub, frm := fun q u h m1 m2 => ?_, src := b.src, ngd := b.ngd, ngc := b.ngc, len := b.len, slot := b.slot, own := fun i c q h o' e1 => ?_, lkb := fun i hi => bn (a.lkb i hi), dis := b.dis }
  · by_cases y : q = p
    · rw [y, upd_same] at h ⊢; exact h
    · rw [upd_ne y] at h
      exact b.frm q u h m1 m2
  · obtain ⟨h1, h2, h3, h4⟩ := a.own i c q h o' e1
    have hq : q ≠ p := fun y => by
      obtain ⟨v, e2, r⟩ := a.slot i c h
      obtain ⟨p', u, e3, hu, _⟩ := r.own o'
      rw [e1] at e2
      cases e2
      cases e3
      rw [y, hp] at hu
      cases hu
    exact ⟨h1, h2, fun hi => ⟨(h3 hi).1, bn (h3 hi).2⟩, fun hi => ⟨by rw [upd_ne hq]; exact (h4 hi).1, (h4 hi).2⟩⟩
theorem AOk.step {p : Addr} {o o' : HO} (a : AOk K A (upd B p o) G H lk LA σ e s) (m1 : p ≠ A.d) (m2 : p ≠ A.c) (hg : G p = none) (hl : ∀ i ∈ lk, LA i ≠ p) : AOk K A (upd B p o') G (upd H p o') lk LA σ e s := by
  have own : ∀ {i c q}, at_ e i = some c → isOwn c = true → σ[i]? = some (some (.ref q)) → q ≠ p := fun {i c q} h ow e1 y => by
    obtain ⟨_, _, h3, h4⟩ := a.own i c q h ow e1
    by_cases hi : i ∈ lk
    · exact hl i hi ((h3 hi).1 ▸ y)
    · have := (h4 hi).1
      rw [y, upd_same] at this
      cases this
  refine { sub := fun b u q => ?_, frm := fun b u q n1 n2 => ?_, src := ⟨?_, ?_⟩, ngd := a.ngd, ngc := a.ngc, len := a.len, slot := fun i c h => ?_, own := fun i c q h ow e1 => ?_, lkb := fun i hi => ?_, dis := a.dis }
  · have z : b ≠ p := fun z => by rw [z, hg] at q; cases q
    rw [upd_ne z]; exact a.sub b u q
  · by_cases z : b = p
    · rw [z, upd_same] at q ⊢; exact q
    · rw [upd_ne z] at q ⊢
      exact a.frm b u (by rw [upd_ne z]; exact q) n1 n2
  · rw [upd_ne (Ne.symm m1)]; exact a.src.1
  · rw [upd_ne (Ne.symm m2)]; exact a.src.2
  · obtain ⟨v, e1, r⟩ := a.slot i c h
    refine ⟨v, e1, r.to (Same.refl G) fun ow q u ev hq => ?_⟩
    subst ev
    rw [upd_ne (own h ow e1)]; exact hq
  · obtain ⟨h1, h2, h3, h4⟩ := a.own i c q h ow e1
    have z := own h ow e1
    refine ⟨h1, h2, fun hi => ⟨(h3 hi).1, ?_⟩, fun hi => ⟨?_, (h4 hi).2⟩⟩
    · have := (h3 hi).2
      rw [upd_ne z] at this ⊢; exact this
    · have := (h4 hi).1
      rw [upd_ne z] at this ⊢; exact this
  · have := a.lkb i hi
    rw [upd_ne (hl i hi)] at this ⊢
    exact this
theorem AOk.leave {p : Addr} {o : HO} (a : AOk K A (upd B p o) G H lk LA σ e s) (hb : B p = none) (hl : ∀ i ∈ lk, LA i ≠ p) : AOk K A B G H lk LA σ e s := by
  have bu : ∀ {q}, B q ≠ none → q ≠ p := fun {q} z y => z (y ▸ hb)
  refine { sub := a.sub, frm := fun q u h m1 m2 => ?_, src := a.src, ngd := a.ngd, ngc := a.ngc, len := a.len, slot := a.slot, own := fun i c q h ow e1 => ?_, lkb := fun i hi => ?_, dis := a.dis }
  · exact a.frm q u (by rw [upd_ne (bu (some_of h))]; exact h) m1 m2
  · obtain ⟨h1, h2, h3, h4⟩ := a.own i c q h ow e1
    refine ⟨h1, h2, fun hi => ⟨(h3 hi).1, ?_⟩, fun hi => ⟨?_, (h4 hi).2⟩⟩
    · have := (h3 hi).2
      rw [upd_ne (by rw [(h3 hi).1]; exact hl i hi)] at this; exact this
    · have := (h4 hi).1
      by_cases z : q = p
      · rw [z, upd_same] at this; cases this
      · rw [upd_ne z] at this; exact this
  · have := a.lkb i hi
    rw [upd_ne (hl i hi)] at this; exact this
theorem same_base {p : Addr} {o : HO} (hb : B p = none) : Same B (upd B p o) := same_upd hb
theorem Ext.gnone {p : Addr} {o : HO} (x : Ext (upd B p o) G G') (hg : G p = none) : G' p = none := by
  cases y : G' p with
  | none => rfl
  | some u =>
    rcases x.2 p (some_of y) with z | z
    · exact absurd hg z
    · rw [upd_same] at z; cases z

theorem wipeS_length (e : Sl) : ∀ vs, (wipeS e vs).length = e.length
  | [] => rfl
  | v :: vs => by unfold wipeS; rw [List.length_set, wipeS_length e vs]
theorem at_wipeS {e : Sl} {i : Nat} {c : Ct} : ∀ {vs : List Nat}, at_ (wipeS e vs) i = some c → at_ e i = some c ∧ i ∉ vs
  | [], h => ⟨h, by simp⟩
  | v :: vs, h => by
    unfold wipeS at h
    rw [at_set] at h
    split at h
    · cases h
    · rename_i hz
      obtain ⟨h1, h2⟩ := at_wipeS h
      have hl : i < e.length := by rw [← wipeS_length e vs]; exact at_lt h
      exact ⟨h1, by simp only [List.mem_cons, not_or]; exact ⟨fun z => hz ⟨z.symm, by rw [wipeS_length, z.symm]; exact hl⟩, h2⟩⟩
theorem wipe_get {σ : L2.St} {i : Nat} : ∀ {vs : List Nat}, i ∉ vs → (wipe σ vs)[i]? = σ[i]?
  | [], _ => rfl
  | v :: vs, h => by
    simp only [List.mem_cons, not_or] at h
    unfold wipe
    rw [List.getElem?_set_ne (Ne.symm h.1), wipe_get h.2]
theorem AOk.wiped {vs : List Nat} (a : AOk K A B G H lk LA σ e s) : AOk K A B G H lk LA (wipe σ vs) (wipeS e vs) s := by
  refine { sub := a.sub, frm := a.frm, src := a.src, ngd := a.ngd, ngc := a.ngc, len := by rw [wipeS_length, wipe_length]; exact a.len, slot := fun i c h => ?_, own := fun i c q h ow e1 => ?_, lkb := a.lkb, dis := fun i j c c' p h h' o o' n n' r r' => ?_ }
  · obtain ⟨h1, h2⟩ := at_wipeS h
    rw [wipe_get h2]; exact a.slot i c h1
  · obtain ⟨h1, h2⟩ := at_wipeS h
    rw [wipe_get h2] at e1; exact a.own i c q h1 ow e1
  · obtain ⟨h1, h2⟩ := at_wipeS h
    obtain ⟨h3, h4⟩ := at_wipeS h'
    rw [wipe_get h2] at r
    rw [wipe_get h4] at r'
    exact a.dis i j c c' p h1 h3 o o' n n' r r'
theorem AOk.wiped' {vs : List Nat} {σ' : L2.St} (a : AOk K A B G H lk LA σ' e s) (h : wipe σ' vs = wipe σ vs) : AOk K A B G H lk LA (wipe σ vs) (wipeS e vs) s := h ▸ a.wiped
theorem backS_length (e e0 : Sl) : ∀ vs, (backS e e0 vs).length = e.length
  | [] => rfl
  | v :: vs => by unfold backS; rw [List.length_set, backS_length e e0 vs]
theorem at_backS {e e0 : Sl} {i : Nat} {c : Ct} : ∀ {vs : List Nat}, at_ (backS e e0 vs) i = some c → (i ∈ vs ∧ at_ e0 i = some c) ∨ (i ∉ vs ∧ at_ e i = some c)
  | [], h => Or.inr ⟨by simp, h⟩
  | v :: vs, h => by
    unfold backS at h
    rw [at_set] at h
    split at h
    · rename_i hz
      exact Or.inl ⟨by rw [hz.1]; simp, by rw [← hz.1]; exact h⟩
    · rename_i hz
      have hl : i < e.length := by rw [← backS_length e e0 vs]; exact at_lt h
      rcases at_backS h with ⟨h1, h2⟩ | ⟨h1, h2⟩
      · exact Or.inl ⟨List.mem_cons_of_mem _ h1, h2⟩
      · exact Or.inr ⟨by simp only [List.mem_cons, not_or]; exact ⟨fun z => hz ⟨z.symm, by rw [backS_length, ← z]; exact hl⟩, h1⟩, h2⟩
theorem AOk.back {vs : List Nat} {B0 G0 H0 : Hp} {e0 : Sl} {s0 : Src} {lk0 : List Nat} {LA0 : Nat → Addr} (a : AOk K A B G H lk LA (wipe σ vs) e s) (a0 : AOk K A B0 G0 H0 lk0 LA0 σ e0 s0) (hg : Same G0 G) (hf : vs.all (free e0) = true) :
    AOk K A B G H lk LA σ (backS e e0 vs) s := by
  have fr : ∀ {i c}, i ∈ vs → at_ e0 i = some c → isOwn c = false := fun {i c} hi hc => by
    have := List.all_eq_true.mp hf i hi
    unfold free at this
    rw [hc] at this
    simpa using this
  have outw : ∀ {i c}, at_ (backS e e0 vs) i = some c → isOwn c = true → i ∉ vs ∧ at_ e i = some c := fun {i c} h ow => by
    rcases at_backS h with ⟨h1, h2⟩ | h
    · rw [fr h1 h2] at ow; cases ow
    · exact h
  refine { sub := a.sub, frm := a.frm, src := a.src, ngd := a.ngd, ngc := a.ngc, len := by rw [backS_length, a.len, wipe_length], slot := fun i c h => ?_, own := fun i c q h ow e1 => ?_, lkb := a.lkb, dis := fun i j c c' p h h' o o' n n' r r' => ?_ }
  · rcases at_backS h with ⟨h1, h2⟩ | ⟨h1, h2⟩
    · obtain ⟨v, e1, r⟩ := a0.slot i c h2
      exact ⟨v, e1, r.to hg fun ow => by rw [fr h1 h2] at ow; cases ow⟩
    · obtain ⟨v, e1, r⟩ := a.slot i c h2
      rw [wipe_get h1] at e1
      exact ⟨v, e1, r⟩
  · obtain ⟨h1, h2⟩ := outw h ow
    exact a.own i c q h2 ow (by rw [wipe_get h1]; exact e1)
  · obtain ⟨h1, h2⟩ := outw h o
    obtain ⟨h3, h4⟩ := outw h' o'
    exact a.dis i j c c' p h2 h4 o o' n n' (by rw [wipe_get h1]; exact r) (by rw [wipe_get h3]; exact r')
theorem wipe_set {σ : L2.St} {i : Nat} {x : Option V} : ∀ {vs : List Nat}, i ∈ vs → wipe (σ.set i x) vs = wipe σ vs
  | v :: vs, h => by
    unfold wipe
    by_cases hv : i ∈ vs
    · rw [wipe_set hv]
    · have e : i = v := (List.mem_cons.mp h).resolve_right hv
      subst e
      have key : ∀ (ws : List Nat), i ∉ ws → wipe (σ.set i x) ws = (wipe σ ws).set i x := fun ws => by
        induction ws with
        | nil => intro _; rfl
        | cons w ws ih =>
          intro hw
          simp only [List.mem_cons, not_or] at hw
          unfold wipe
          rw [ih hw.2, List.set_comm _ _ hw.1]
      rw [key vs hv, List.set_set]

def isTT : IR → Bool
  | .ttup _ => true
  | _ => false
/-- what may come to a target: data; a new pair, for a row of targets -/
def VB (K : PySem.W.Frag) (tt : Bool) (G H : Hp) (v : V) (d : D) : Prop :=
  Dq K G v d ∨ (tt = true ∧ ∃ T vs ds, v = .ref T ∧ d = .tuple ds ∧ H T = some (.tup vs) ∧ DqA K G vs ds)
def gB (W : Wd) (K : PySem.W.Frag) (lk : List Nat) (ir : IR) : TG := fun v σ H Q => ∃ B G LA e s d e', AOk K W.A B G H lk LA σ e s ∧ bindT ir lk d e = some e' ∧ VB K (isTT ir) G H v d ∧
  ∀ σ', AOk K W.A B G H lk LA σ' e' s → (∀ vs : List Nat, (∀ i ∈ slotsT ir, i ∈ vs) → wipe σ' vs = wipe σ vs) → Q σ' H
def gBs (W : Wd) (K : PySem.W.Frag) (lk : List Nat) (ir : IR) : TGs := fun us σ H Q => ∃ B G LA e s ds e', AOk K W.A B G H lk LA σ e s ∧ bindTs ir lk ds e = some e' ∧ DqA K G us ds ∧
  ∀ σ', AOk K W.A B G H lk LA σ' e' s → (∀ vs : List Nat, (∀ i ∈ slotsT ir, i ∈ vs) → wipe σ' vs = wipe σ vs) → Q σ' H
end
section
variable {X : Cx} {W : Wd} {N : List Str} {sc : Scope} {fs : List Str} {lk : List Nat} {pos : Pos} {es : List Expr} {it ir : IR}
/-- a name of one's own -/
def locB (sc : Scope) (fs : List Str) (x : Str) : Bool := match sc.names.lookup x with
  | some .local => true
  | some .cell => fs.contains x
  | _ => false
theorem GX.loc (g : GX X W N sc fs) {x : Str} (h : locB sc fs x = true) : Loc X.env.scope x ∧ (X.fn x = true ∨ X.env.scope.names.lookup x = some .local) := by
  unfold locB at h
  rw [g.hsc]
  split at h
  · rename_i e; exact ⟨.inl e, .inr e⟩
  · rename_i e; exact ⟨.inr e, .inl (g.fn x (by simpa using h))⟩
  · cases h
def tgB (N : List Str) (sc : Scope) (fs : List Str) (i : Nat) (x : Str) : Bool := decide (N[i]? = some x) && locB sc fs x
theorem g_name (g : GX X W N sc fs) {i : Nat} {x : Str} (h : tgB N sc fs i x = true) : PG X (.Name x pos) (gB W X.K lk (.tname i)) := by
  unfold tgB at h
  rw [Bool.and_eq_true] at h
  obtain ⟨h1, h2⟩ := g.loc h.2
  have hi : X.N[i]? = some x := by rw [g.hN]; exact of_decide_eq_true h.1
  refine ⟨fun pins s σ H v u Q I r ⟨B, G, LA, e, s0, d, e', a, ev, vb, k⟩ => ?_⟩
  refine (pg_name (pos := pos) (by rw [g.hN]; exact g.nd) hi h1 h2).run pins s σ H v u Q I r ?_
  show Q (σ.set i (some v)) H
  unfold bindT at ev
  split at ev
  · cases ev
  · rename_i hc
    cases ev
    simp only [Bool.or_eq_true, decide_eq_true_eq, not_or] at hc
    have hik : i ∉ lk := fun z => hc.1 (by simpa using z)
    rcases vb with dq | ⟨z, _⟩
    · exact k _ (a.put (COk.v dq) hik (by omega)) fun vs hv => wipe_set (hv i (by simp [slotsT]))
    · cases z
theorem g_nil : PGs X [] (gBs W X.K lk .nil) := by
  refine ⟨fun pins s σ H vs us Q I r ⟨B, G, LA, e, s0, ds, e', a, ev, q, k⟩ => ?_⟩
  refine pgs_nil.run pins s σ H vs us Q I r ?_
  unfold bindTs at ev
  split at ev
  · cases ev
    cases q
    exact ⟨rfl, k σ a fun _ _ => rfl⟩
  · cases ev
def plainTg : Expr → Bool
  | .Name _ _ => true
  | .Tuple _ _ _ => true
  | .Subscript _ _ _ => true
  | _ => false
theorem assignEach_cons {t : Expr} (h : plainTg t = true) (ts : List Expr) (env : Env) : assignEach (t :: ts) env = (false, assign t env) :: assignEach ts env := by
  cases t <;> first
    | rfl
    | cases h
theorem g_cons {t : Expr} {ts : List Expr} (hp : plainTg t = true) (h1 : PG X t (gB W X.K lk it)) (h2 : PGs X ts (gBs W X.K lk ir)) : PGs X (t :: ts) (gBs W X.K lk (.cons it ir)) := by
  refine ⟨fun pins s σ H vs us Q I r ⟨B, G, LA, e, s0, ds, e', a, ev, q, k⟩ => ?_⟩
  refine (pgs_cons h1 h2 (by rw [assignEach_cons hp]; rfl)).run pins s σ H vs us Q I r ?_
  unfold bindTs at ev
  split at ev
  · rename_i d ds'
    obtain ⟨e1, h3, h4⟩ := bind_some ev
    cases q with
    | @cons v vs' _ _ q1 q2 =>
      refine ⟨v, vs', rfl, B, G, LA, e, s0, d, e1, a, h3, Or.inl q1, fun σ1 a1 hw1 => ?_⟩
      exact ⟨B, G, LA, e1, s0, ds', e', a1, h4, q2, fun σ2 a2 hw2 => k σ2 a2 fun vs hv => (hw2 vs fun i hi => hv i (by simp [slotsT, hi])).trans (hw1 vs fun i hi => hv i (by simp [slotsT, hi]))⟩
  · cases ev
theorem bindTs_len {lk : List Nat} : ∀ {ts : IR} {ds : List D} {e e' : Sl} {n : Nat}, bindTs ts lk ds e = some e' → True := fun _ => trivial
def rowLen : IR → Option Nat
  | .nil => some 0
  | .cons _ r => (rowLen r).map (· + 1)
  | _ => none
theorem bindTs_rowLen {lk : List Nat} (ts : IR) : ∀ {ds : List D} {e e' : Sl}, bindTs ts lk ds e = some e' → rowLen ts = some ds.length := by
  induction ts with
  | nil =>
    intro ds e e' h
    unfold bindTs at h
    split at h
    · rfl
    · cases h
  | cons t r _ ih =>
    intro ds e e' h
    unfold bindTs at h
    split at h
    · obtain ⟨e1, h3, h4⟩ := bind_some h
      unfold rowLen
      rw [ih h4]
      rfl
    · cases h
  | _ =>
    intro ds e e' h
    unfold bindTs at h
    cases h
theorem each_len {ts : List Expr} (h : ts.all plainTg = true) (env : Env) : (assignEach ts env).length = ts.length ∧ (assignEach ts env).findIdx? (·.1) = none := by
  induction ts with
  | nil => exact ⟨rfl, rfl⟩
  | cons t ts ih =>
    rw [List.all_cons, Bool.and_eq_true] at h
    rw [assignEach_cons h.1]
    obtain ⟨h1, h2⟩ := ih h.2
    refine ⟨by simp [h1], ?_⟩
    rw [List.findIdx?_cons, h2]
    rfl
theorem g_tup (g : GX X W N sc fs) {ts : List Expr} {k : Nat} (hp : ts.all plainTg = true) (hl : rowLen ir = some ts.length) (h : PGs X ts (gBs W X.K lk ir)) : PG X (.Tuple ts k pos) (gB W X.K lk (.ttup ir)) := by
  obtain ⟨z1, z2⟩ := each_len hp X.env
  refine ⟨fun pins s σ H v u Q I r ⟨B, G, LA, e, s0, d, e', a, ev, vb, k⟩ => ?_⟩
  refine (pg_tup g.calm h rfl z2).run pins s σ H v u Q I r ?_
  unfold bindT at ev
  split at ev
  · rename_i ds
    have hds := bindTs_rowLen _ ev
    rw [hl] at hds
    have hn : ts.length = ds.length := Option.some.inj hds
    rcases vb with dq | ⟨_, T, vs, ds', rfl, e1, hT, q⟩
    · cases dq with
      | @tup p o xs _ nd g1 q1 =>
        refine ⟨p, xs, rfl, sqT_frz (a.sub _ _ g1), by rw [z1, hn, dpA_len q1], B, G, LA, e, s0, ds, e', a, ev, q1, fun σ' a' hw => k σ' a' hw⟩
    · cases e1
      exact ⟨T, vs, rfl, .inl (.inl hT), by rw [z1, hn, dpA_len q], B, G, LA, e, s0, ds, e', a, ev, q, fun σ' a' hw => k σ' a' hw⟩
  · cases ev
end
end GW

namespace GW
open PySem PySem.Spec PyProof.Rows L2

/-- what an iterator of ds gives -/
def JOk (K : PySem.W.Frag) (tt : Bool) (G H : Hp) (σ : L2.St) (e : Sl) (J : It) (ds : List D) (lks : List Nat) : Prop :=
  ∃ Gd Y, Walk J ds.length Gd Y ∧
    ((lks = [] ∧ ∀ H', Same G H' → Gd H') ∨ (∃ i p xs, lks = [i] ∧ at_ e i = some (.l ds) ∧ σ[i]? = some (some (.ref p)) ∧ H p = some (.lst xs) ∧ ∀ H', H' p = some (.lst xs) → Gd H')) ∧
    ∀ j H1 x H2, j < ds.length → Y j H1 x H2 → ∃ d, ds[j]? = some d ∧
      ((H2 = H1 ∧ Dq K G x d) ∨ (tt = true ∧ ∃ T v w d1 d2, x = .ref T ∧ H1 T = none ∧ H2 = upd H1 T (.tup [v, w]) ∧ d = .tuple [d1, d2] ∧ Dq K G v d1 ∧ Dq K G w d2))
def iI (W : Wd) (K : PySem.W.Frag) (lk : List Nat) (tt : Bool) (ir : IR) : TI := fun σ H R => ∃ B G LA e s ds lks e' s', AOk K W.A B G H lk LA σ e s ∧ evI W.gl W.calls ir lk e s = some (ds, lks, e', s') ∧
  ∀ J G' H', AOk K W.A B G' H' lk LA σ e' s' → Ext B G G' → JOk K tt G' H' σ e' J ds lks → R J H'
section
variable {X : Cx} {W : Wd} {N : List Str} {sc : Scope} {fs : List Str} {lk : List Nat} {pos p : Pos} {tg a b c : Expr} {es : List Expr} {ia ib ic ir : IR} {tt : Bool}
theorem dpA_at {K : PySem.W.Frag} {G : Hp} {ds : List D} {vs : List V} {j : Nat} {x : V} (h : DqA K G vs ds) (hx : vs[j]? = some x) : ∃ d, ds[j]? = some d ∧ Dq K G x d := dpA_getV h hx
theorem i_lend (g : GX X W N sc fs) {i : Nat} {x : Str} (h : nmB N sc i x = true) : PI X tg (.Name x p) (iI W X.K lk tt (.iseq (.lend i))) := by
  obtain ⟨n1, n2, n3⟩ := g.nm h
  obtain ⟨d1, d2, _⟩ := okName_of n3
  refine pi_weak (pi_list (pe_var n1 (visB_vis n2) d1 d2)) fun σ H R ⟨B, G, LA, e, s, ds, lks, e', s', a, ev, k⟩ => ?_
  unfold evI at ev
  split at ev
  · rename_i ds' hc
    cases ev
    obtain ⟨v, e1, q, xs, rfl, hq, r⟩ := a.slot i _ hc
    refine ⟨.ref q, e1, q, rfl, ⟨xs, SqL.of hq⟩, ?_⟩
    refine k _ G H a Ext.refl ⟨_, _, dpA_len r ▸ walk_list, Or.inr ⟨i, q, xs, rfl, hc, e1, hq, fun H' z => SqL.of z⟩, fun j H1 x H2 _ y => ?_⟩
    obtain ⟨d, hd, dq⟩ := dpA_at r y.2
    exact ⟨d, hd, Or.inl ⟨y.1, dq⟩⟩
  · cases ev
theorem evI_e {a : IR} (nl : notLend a = true) (lk : List Nat) (σ : Sl) (s : Src) :
    evI W.gl W.calls (.iseq a) lk σ s = (evE W.gl W.calls a lk σ s).bind fun (c, σ1, s1) => (frz c).bind fun d => (itemsD d).map fun ds => (ds, [], σ1, s1) := by
  cases a <;> first
    | rfl
    | cases nl
/-- a list or a tuple -/
theorem pi_seq {l : Expr} {tl : TE} (hl : PE X l tl) : PI X tg l (fun σ H R => tl σ H fun x H1 => (∃ a, x = .ref a ∧ (∃ xs, SqL X.K H1 a xs) ∧ R (Itl X.K a) H1) ∨ ∃ a, x = .ref a ∧ (∃ xs, SqT X.K H1 a xs) ∧ R (Itt X.K a) H1) := by
  refine ⟨fun pins s σ H R I h => ?_⟩
  refine thn (hl.run pins s σ H _ I h) fun v s1 ⟨x, H1, I1, r1, q1⟩ => ?_
  rcases q1 with ⟨a, e, ⟨xs, hq⟩, q⟩ | ⟨a, e, ⟨xs, hq⟩, q⟩
  · subst e
    cases r1
    obtain ⟨its, rv, p, hz⟩ := I1.list hq
    refine wpAny_pyIter_list p.isList ?_
    refine ⟨s1.heap.objs.size, [s1.heap.objs.size], _, _, H1, rfl, I1.kept (t' := s1.toks) fun b o e => Heap.get?_push_of_some _ e, turn_list a _, ⟨_, Heap.get?_push_size _ rfl, rfl, rfl⟩, fun b hb => ?_, q⟩
    have e : b = s1.heap.objs.size := by simpa using hb
    subst e
    exact I1.fpOk (Nat.le_refl _) (I1.hok.fresh (Nat.le_refl _))
  · subst e
    cases r1
    obtain ⟨its, rv, p, hz⟩ := I1.tuple hq
    refine wpAny_pyIter_tuple (show s1.heap.IsTuple a its.toArray from p) ?_
    refine ⟨s1.heap.objs.size, [s1.heap.objs.size], _, _, H1, rfl, I1.kept (t' := s1.toks) fun b o e => Heap.get?_push_of_some _ e, turn_tuple a _, ⟨_, Heap.get?_push_size _ rfl, rfl, rfl⟩, fun b hb => ?_, q⟩
    have e : b = s1.heap.objs.size := by simpa using hb
    subst e
    exact I1.fpOk (Nat.le_refl _) (I1.hok.fresh (Nat.le_refl _))
theorem items_form {d : D} {ds : List D} (h : itemsD d = some ds) : d = .list ds ∨ d = .tuple ds := by
  cases d <;> first
    | (cases h; first | exact Or.inl rfl | exact Or.inr rfl)
    | cases h
theorem i_seq (nl : notLend ia = true) (ha : PE X a (tE W X.K lk ia)) : PI X tg a (iI W X.K lk tt (.iseq ia)) := by
  refine pi_weak (pi_seq ha) fun σ H R ⟨B, G, LA, e, s, ds, lks, e', s', a0, ev, k⟩ => ?_
  rw [evI_e nl] at ev
  obtain ⟨⟨c, e1, s1⟩, h1, h2⟩ := bind_some ev
  obtain ⟨d, h3, h4⟩ := bind_some h2
  obtain ⟨ds', h5, h6⟩ := map_some h4
  cases h6
  refine ⟨B, G, LA, e, s, c, e', s', a0, h1, fun v G1 H1 a1 ext cok => ?_⟩
  obtain ⟨G2, a2, ext2, dq⟩ := a1.freeze cok h3
  rcases items_form h5 with rfl | rfl
  · cases dq with
    | @lst p xs _ g1 r =>
      refine Or.inl ⟨p, rfl, ⟨xs, SqL.of (a2.sub _ _ g1)⟩, k _ G2 H1 a2 (ext.trans ext2) ⟨_, _, dpA_len r ▸ walk_list, Or.inl ⟨rfl, fun H' sm => SqL.of (sm _ _ g1)⟩, fun j H1 x H2 _ y => ?_⟩⟩
      obtain ⟨d, hd, dq⟩ := dpA_at r y.2
      exact ⟨d, hd, Or.inl ⟨y.1, dq⟩⟩
  · cases dq with
    | @tup p o xs _ nd g1 r =>
      refine Or.inr ⟨p, rfl, ⟨xs, sqT_frz (a2.sub _ _ g1)⟩, k _ G2 H1 a2 (ext.trans ext2) ⟨_, _, dpA_len r ▸ walk_tup, Or.inl ⟨rfl, fun H' sm => sqT_frz (sm _ _ g1)⟩, fun j H1 x H2 _ y => ?_⟩⟩
      obtain ⟨d, hd, dq⟩ := dpA_at r y.2
      exact ⟨d, hd, Or.inl ⟨y.1, dq⟩⟩
theorem rangeL_len (i c : Int) (n : Nat) : (rangeL i c n).length = n := by unfold rangeL; rw [List.length_map, List.length_range]
theorem rangeL_at (i c : Int) (n j : Nat) (h : j < n) : (rangeL i c n)[j]? = some (.int (i + (j : Nat) * c)) := by
  unfold rangeL
  rw [List.getElem?_map, List.getElem?_range h]
  rfl
theorem jok_range {K : PySem.W.Frag} {G H : Hp} {σ : L2.St} {e : Sl} {lo : Int} {n : Nat} : JOk K tt G H σ e (Itr lo n) (rangeL lo 1 n) [] := by
  refine ⟨_, _, (by rw [rangeL_len]; exact walk_range), Or.inl ⟨rfl, fun _ _ => trivial⟩, fun j H1 x H2 hj y => ?_⟩
  rw [rangeL_len] at hj
  refine ⟨_, rangeL_at _ _ _ _ hj, Or.inl ⟨y.1, ?_⟩⟩
  rw [y.2, Int.mul_one]
  exact .int _
theorem jok_rangeC {K : PySem.W.Frag} {G H : Hp} {σ : L2.St} {e : Sl} {lo c : Int} {n : Nat} : JOk K tt G H σ e (Itc lo c n) (rangeL lo c n) [] := by
  refine ⟨_, _, (by rw [rangeL_len]; exact walk_rangeC), Or.inl ⟨rfl, fun _ _ => trivial⟩, fun j H1 x H2 hj y => ?_⟩
  rw [rangeL_len] at hj
  refine ⟨_, rangeL_at _ _ _ _ hj, Or.inl ⟨y.1, ?_⟩⟩
  rw [y.2]
  exact .int _
theorem i_rng1 (g : GX X W N sc fs) (h1 : glB sc "range" = true) (ns : notStar a = true) (ha : PE X a (tE W X.K lk ia)) : PI X tg (.Call (.Name "range" p) [a] [] pos) (iI W X.K lk tt (.irng1 ia)) := by
  refine pi_weak (pi_range1 (g.gl h1).1 (g.blt "range" (by simp)) (pa_cons ha pa_nil (starEach_one ns _)) (starEach_one ns _)) fun σ H R ⟨B, G, LA, e, s, ds, lks, e', s', a0, ev, k⟩ => ?_
  unfold evI at ev
  obtain ⟨⟨c, e1, s1⟩, h1, h2⟩ := bind_some ev
  dsimp only at h2
  split at h2
  · rename_i j
    obtain ⟨r, hr, h3⟩ := map_some h2
    cases h3
    obtain ⟨rfl, ok⟩ := rng1_form hr
    refine ⟨B, G, LA, e, s, _, e', s', a0, h1, fun v G1 H1 a1 ext cok => ?_⟩
    cases (show Dq X.K G1 v (.int j) from cok.1)
    refine ⟨j, rfl, ok.2.2.1, ok.2.2.2.1, k _ G1 H1 a1 ext ?_⟩
    rw [Int.sub_zero]
    exact jok_range
  · cases h2
theorem i_rng2 (g : GX X W N sc fs) (h1 : glB sc "range" = true) (ns : notStar a = true) (nb : notStar b = true) (ha : PE X a (tE W X.K lk ia)) (hb : PE X b (tE W X.K lk ib)) : PI X tg (.Call (.Name "range" p) [a, b] [] pos) (iI W X.K lk tt (.irng2 ia ib)) := by
  refine pi_weak (pi_range2 (g.gl h1).1 (g.blt "range" (by simp)) (pa_cons ha (pa_cons hb pa_nil (starEach_one nb _)) (starEach_one ns _)) (by rw [starEach_one ns, starEach_one nb]; rfl) (starEach_one nb _)) fun σ H R ⟨B, G, LA, e, s, ds, lks, e', s', a0, ev, k⟩ => ?_
  unfold evI at ev
  obtain ⟨⟨c, e1, s1⟩, h1, h2⟩ := bind_some ev
  obtain ⟨⟨c', e2, s2⟩, h3, h4⟩ := bind_some h2
  dsimp only at h3 h4
  split at h4
  · rename_i i j
    obtain ⟨r, hr, h5⟩ := map_some h4
    cases h5
    obtain ⟨rfl, ok⟩ := rng2_form hr
    refine ⟨B, G, LA, e, s, _, e1, s1, a0, h1, fun v G1 H1 a1 ext cok => ?_⟩
    cases (show Dq X.K G1 v (.int i) from cok.1)
    refine ⟨B, G1, LA, e1, s1, _, e', s', a1, h3, fun u G2 H2 a2 ext2 cok2 => ?_⟩
    cases (show Dq X.K G2 u (.int j) from cok2.1)
    exact ⟨i, j, rfl, ⟨ok.1, ok.2.1, ok.2.2.1, ok.2.2.2.1⟩, k _ G2 H2 a2 (ext.trans ext2) jok_range⟩
  · cases h4
theorem i_rng3 (g : GX X W N sc fs) (h1 : glB sc "range" = true) (ns : notStar a = true) (nb : notStar b = true) (nc : notStar c = true) (ha : PE X a (tE W X.K lk ia)) (hb : PE X b (tE W X.K lk ib)) (hc : PE X c (tE W X.K lk ic)) :
    PI X tg (.Call (.Name "range" p) [a, b, c] [] pos) (iI W X.K lk tt (.irng3 ia ib ic)) := by
  refine pi_weak (pi_range3 (g.gl h1).1 (g.blt "range" (by simp)) (pa_cons ha (pa_cons hb (pa_cons hc pa_nil (starEach_one nc _)) (starEach_one nb _)) (starEach_one ns _)) (starEach_one ns _) (star_none (by simp [nb, nc]) _ _)) fun σ H R ⟨B, G, LA, e, s, ds, lks, e', s', a0, ev, k⟩ => ?_
  unfold evI at ev
  obtain ⟨⟨c, e1, s1⟩, h1, h2⟩ := bind_some ev
  obtain ⟨⟨c', e2, s2⟩, h3, h4⟩ := bind_some h2
  obtain ⟨⟨c'', e3, s3⟩, h5, h6⟩ := bind_some h4
  dsimp only at h3 h5 h6
  split at h6
  · rename_i i j k'
    obtain ⟨r, hr, h7⟩ := map_some h6
    cases h7
    obtain ⟨rfl, rfl, ok, _⟩ := rng3_form hr
    refine ⟨B, G, LA, e, s, _, e1, s1, a0, h1, fun v G1 H1 a1 ext cok => ?_⟩
    cases (show Dq X.K G1 v (.int i) from cok.1)
    refine ⟨B, G1, LA, e1, s1, _, e2, s2, a1, h3, fun u G2 H2 a2 ext2 cok2 => ?_⟩
    cases (show Dq X.K G2 u (.int j) from cok2.1)
    refine ⟨B, G2, LA, e2, s2, _, e', s', a2, h5, fun w G3 H3 a3 ext3 cok3 => ?_⟩
    cases (show Dq X.K G3 w (.int (-1)) from cok3.1)
    exact ⟨i, j, -1, _, rfl, ok, k _ G3 H3 a3 ((ext.trans ext2).trans ext3) jok_rangeC⟩
  · cases h6
/-- enumerate: over a list or a tuple -/
theorem pi_enumS {e : Expr} {ta : TA} {tpos : Pos} {elts : List Expr} {kk : Nat} (hg : Gl X "enumerate") (hm : X.mg "enumerate" = none) (ha : PA X [e] ta) (hs : starEach [e] X.env = [(false, eval e X.env)]) :
    PI X (.Tuple elts kk tpos) (.Call (.Name "enumerate" p) [e] [] pos) (fun σ H R => ta σ H fun vs H1 => (∃ a xs, vs = [.ref a] ∧ SqL X.K H1 a xs ∧ R (Ite X.K a) H1) ∨ ∃ a xs, vs = [.ref a] ∧ SqT X.K H1 a xs ∧ H1 a ≠ none ∧ R (IteT X.K a xs) H1) := by
  refine ⟨fun pins s σ H R I h => ?_⟩
  refine Call_ (ld_blt I hg hm boot_enumerate (PyProof.Rows.callWith_type1 (thn (ha.run pos pins s σ H _ I h) fun us s1 ⟨vs, H1, I1, r1, q1⟩ => ?_) hs rfl))
  rcases q1 with ⟨a, xs, ex, hq, q⟩ | ⟨a, xs, ex, hq, hn, q⟩
  · subst ex
    cases r1 with
    | cons r rr =>
      cases rr
      cases r
      obtain ⟨its, rv, p', hz⟩ := I1.list hq
      refine call_enumerate_list p'.isList fun h' he hit hsz hk => wpAny_pyIter_enum he ?_
      have I2 : Inv X pins σ H1 { s1 with heap := h' } := I1.kept (t' := s1.toks) hk
      refine ⟨s1.heap.objs.size + 1, [s1.heap.objs.size + 1, s1.heap.objs.size], _, _, H1, rfl, I2, turn_enum a (s1.heap.objs.size + 1) s1.heap.objs.size, ⟨⟨.none, he⟩, hit, Nat.succ_ne_self _⟩, fun b hb => ?_, q⟩
      have e' : b = s1.heap.objs.size + 1 ∨ b = s1.heap.objs.size := by simpa using hb
      have hle : s1.heap.objs.size ≤ b := by
        rcases e' with z | z
        · rw [z]; exact Nat.le_add_right _ _
        · rw [z]; exact Nat.le_refl _
      exact I1.fpOk hle (I1.hok.fresh hle)
  · subst ex
    cases r1 with
    | cons r rr =>
      cases rr
      cases r
      obtain ⟨its, rv, p', hz⟩ := I1.tuple hq
      have hal : a < s1.heap.objs.size := by obtain ⟨_, q, _⟩ := p'; exact Heap.lt_size q
      refine call_enumB (begins_tuple a its.toArray) (show s1.heap.IsTuple a its.toArray from p') fun h' he hit hk => wpAny_pyIter_enum he ?_
      have I2 : Inv X pins σ H1 { s1 with heap := h' } := I1.kept (t' := s1.toks) hk
      refine ⟨s1.heap.objs.size + 1, [s1.heap.objs.size + 1, s1.heap.objs.size], _, _, H1, rfl, I2, turn_enumT a (s1.heap.objs.size + 1) s1.heap.objs.size (Nat.ne_of_lt hal) (Nat.ne_of_lt (Nat.lt_succ_of_lt hal)) (Nat.succ_ne_self _), ⟨⟨.none, he⟩, ⟨_, hit, rfl, rfl⟩⟩, fun b hb => ?_, q⟩
      have e' : b = s1.heap.objs.size + 1 ∨ b = s1.heap.objs.size := by simpa using hb
      have hle : s1.heap.objs.size ≤ b := by
        rcases e' with z | z
        · rw [z]; exact Nat.le_add_right _ _
        · rw [z]; exact Nat.le_refl _
      exact I1.fpOk hle (I1.hok.fresh hle)
theorem enum_len (ds : List D) : (ds.zipIdx.map fun p => PyData.tuple [.int (p.2 : Nat), p.1]).length = ds.length := by rw [List.length_map, List.length_zipIdx]
theorem enum_at {ds : List D} {j : Nat} {d : D} (h : ds[j]? = some d) : (ds.zipIdx.map fun p => PyData.tuple [.int (p.2 : Nat), p.1])[j]? = some (.tuple [.int (j : Nat), d]) := by
  rw [List.getElem?_map, List.getElem?_zipIdx, h]
  simp
theorem jok_enum {K : PySem.W.Frag} {G H : Hp} {σ : L2.St} {e : Sl} {J : It} {Gd : Hp → Prop} {xs : List V} {ds : List D} (r : DqA K G xs ds)
    (w : Walk J xs.length Gd (YPair (fun i => some (.int (i : Nat))) (fun i => xs[i]?))) (hg : ∀ H', Same G H' → Gd H') : JOk K true G H σ e J (ds.zipIdx.map fun p => PyData.tuple [.int (p.2 : Nat), p.1]) [] := by
  refine ⟨Gd, _, by rw [enum_len, ← dpA_len r]; exact w, Or.inl ⟨rfl, hg⟩, fun j H1 x H2 hj y => ?_⟩
  obtain ⟨T, v, w', h1, h2, h3, h4, h5⟩ := y
  cases h4
  obtain ⟨d, hd, dq⟩ := dpA_at r h5
  exact ⟨_, enum_at hd, Or.inr ⟨rfl, T, _, w', _, d, h1, h2, h3, rfl, .int _, dq⟩⟩
theorem i_enum (g : GX X W N sc fs) {ts : List Expr} {kk : Nat} {tpos : Pos} (h1 : glB sc "enumerate" = true) (ns : notStar a = true) (ha : PE X a (tE W X.K lk ia)) :
    PI X (.Tuple ts kk tpos) (.Call (.Name "enumerate" p) [a] [] pos) (iI W X.K lk true (.ienum ia)) := by
  refine pi_weak (pi_enumS (g.gl h1).1 (g.blt "enumerate" (by simp)) (pa_cons ha pa_nil (starEach_one ns _)) (starEach_one ns _)) fun σ H R ⟨B, G, LA, e, s, ds, lks, e', s', a0, ev, k⟩ => ?_
  unfold evI at ev
  obtain ⟨⟨c, e1, s1⟩, h1, h2⟩ := bind_some ev
  obtain ⟨d, h3, h4⟩ := bind_some h2
  obtain ⟨ds', h5, h6⟩ := map_some h4
  cases h6
  refine ⟨B, G, LA, e, s, c, e', s', a0, h1, fun v G1 H1 a1 ext cok => ?_⟩
  obtain ⟨G2, a2, ext2, dq⟩ := a1.freeze cok h3
  rcases items_form h5 with rfl | rfl
  · cases dq with
    | @lst p xs _ g1 r =>
      exact Or.inl ⟨p, xs, rfl, SqL.of (a2.sub _ _ g1), k _ G2 H1 a2 (ext.trans ext2) (jok_enum r walk_enum fun H' sm => SqL.of (sm _ _ g1))⟩
  · cases dq with
    | @tup p o xs _ nd g1 r =>
      exact Or.inr ⟨p, xs, rfl, sqT_frz (a2.sub _ _ g1), some_of (a2.sub _ _ g1), k _ G2 H1 a2 (ext.trans ext2) (jok_enum r walk_enumT fun H' sm => sqT_frz (sm _ _ g1))⟩
end
end GW

namespace GW
open PySem PySem.Spec PyProof.Rows L2

theorem wipe_idem (σ : L2.St) (vs : List Nat) : wipe (wipe σ vs) vs = wipe σ vs := by
  have key : ∀ (ws us : List Nat), (∀ i ∈ us, i ∈ ws) → wipe (wipe σ us) ws = wipe σ ws := by
    intro ws us
    induction us with
    | nil => intro _; rfl
    | cons u us ih =>
      intro h
      show wipe ((wipe σ us).set u none) ws = _
      rw [wipe_set (h u (by simp)), ih fun i hi => h i (by simp [hi])]
  exact key vs vs fun _ h => h
def lksOf : IR → List Nat
  | .iseq (.lend i) => [i]
  | _ => []
theorem evI_lks {W : Wd} {ir : IR} {lk : List Nat} {e : Sl} {s : Src} {ds : List D} {lks : List Nat} {e' : Sl} {s' : Src} (h : evI W.gl W.calls ir lk e s = some (ds, lks, e', s')) : lks = lksOf ir := by
  cases ir with
  | iseq a =>
    by_cases nl : notLend a = true
    · rw [evI_e nl] at h
      obtain ⟨⟨c, e1, s1⟩, h1, h2⟩ := bind_some h
      obtain ⟨d, h3, h4⟩ := bind_some h2
      obtain ⟨ds', h5, h6⟩ := map_some h4
      cases h6
      cases a <;> first
        | rfl
        | cases nl
    · cases a <;> first
        | exact absurd rfl nl
        | skip
      unfold evI at h
      split at h
      · cases h; rfl
      · cases h
  | irng1 a =>
    unfold evI at h
    obtain ⟨⟨c, e1, s1⟩, h1, h2⟩ := bind_some h
    dsimp only at h2
    split at h2
    · obtain ⟨r, hr, h3⟩ := map_some h2
      cases h3; rfl
    · cases h2
  | irng2 a b =>
    unfold evI at h
    obtain ⟨⟨c, e1, s1⟩, h1, h2⟩ := bind_some h
    obtain ⟨⟨c', e2, s2⟩, h3, h4⟩ := bind_some h2
    dsimp only at h4
    split at h4
    · obtain ⟨r, hr, h5⟩ := map_some h4
      cases h5; rfl
    · cases h4
  | irng3 a b c =>
    unfold evI at h
    obtain ⟨⟨c, e1, s1⟩, h1, h2⟩ := bind_some h
    obtain ⟨⟨c', e2, s2⟩, h3, h4⟩ := bind_some h2
    obtain ⟨⟨c'', e3, s3⟩, h5, h6⟩ := bind_some h4
    dsimp only at h6
    split at h6
    · obtain ⟨r, hr, h7⟩ := map_some h6
      cases h7; rfl
    · cases h6
  | ienum a =>
    unfold evI at h
    obtain ⟨⟨c, e1, s1⟩, h1, h2⟩ := bind_some h
    obtain ⟨d, h3, h4⟩ := bind_some h2
    obtain ⟨ds', h5, h6⟩ := map_some h4
    cases h6; rfl
  | _ => unfold evI at h; cases h

theorem drop_at {α : Type} {l : List α} {i : Nat} {d : α} (h : l[i]? = some d) : l.drop i = d :: l.drop (i + 1) := by
  obtain ⟨hi, e⟩ := List.getElem?_eq_some_iff.mp h
  rw [List.drop_eq_getElem_cons hi, e]

section
variable {W : Wd} {K : PySem.W.Frag} {B1 G1 H1 : Hp} {lk1 : List Nat} {LA1 : Nat → Addr} {σ : L2.St} {e1 e2 : Sl} {s1 s2 : Src} {J : It} {ds out : List D} {Gd : Hp → Prop} {Y : Nat → Hp → V → Hp → Prop} {vs : List Nat} {itg icnd ielt : IR} {Q : VK} {Dd : Addr}
theorem comp_core (a1 : AOk K W.A B1 G1 H1 lk1 LA1 σ e1 s1) (hD : H1 Dd = none) (w : Walk J ds.length Gd Y) (hGd : ∀ H', Same G1 H' → Frm W.A B1 H' → Gd H')
    (hy : ∀ j H1 x H2, j < ds.length → Y j H1 x H2 → ∃ d, ds[j]? = some d ∧
      ((H2 = H1 ∧ Dq K G1 x d) ∨ (isTT itg = true ∧ ∃ T v w d1 d2, x = .ref T ∧ H1 T = none ∧ H2 = upd H1 T (.tup [v, w]) ∧ d = .tuple [d1, d2] ∧ Dq K G1 v d1 ∧ Dq K G1 w d2)))
    (ht : turns vs (bindT itg lk1) (evT W.gl W.calls icnd lk1) (evE W.gl W.calls ielt lk1) ds (wipeS e1 vs) s1 [] = some (out, e2, s2)) (hf : vs.all (free e1) = true) (hsl : ∀ i ∈ slotsT itg, i ∈ vs)
    (k : ∀ G' H', AOk K W.A B1 G' H' lk1 LA1 σ (backS e2 e1 vs) s2 → Ext B1 G1 G' → COk K W.A B1 G' H' lk1 σ (backS e2 e1 vs) (.l out) (.ref Dd) → Q (.ref Dd) H') :
    ∃ Wn : Nat → Nat → Hp → Prop, (∃ m, Wn 0 m (upd H1 Dd (.lst []))) ∧ ∀ i m H, Wn i m H →
      (J.stop i H ∧ Q (.ref Dd) H) ∨ (J.go i H ∧ ∃ Nx : Hp → Prop, (∀ H', Nx H' → ∃ m', m' < m ∧ Wn (i + 1) m' H') ∧ ∀ x H', J.yld i H x H' → gB W K lk1 itg x (wipe σ vs) H' fun σ2 H2 => wipe σ2 vs = wipe σ vs ∧ tT W K lk1 icnd σ2 H2 fun b H3 =>
        if b = true then tE W K lk1 ielt σ2 H3 fun y H4 => ∃ acc, H4 Dd = some (.lst acc) ∧ acc.length < sizeLine ∧ Nx (upd H4 Dd (.lst (acc ++ [y]))) else Nx H3) := by
  have bD := a1.bnone hD
  obtain ⟨m1, m2⟩ := a1.ned hD
  have hl : ∀ i ∈ lk1, LA1 i ≠ Dd := fun i hi z => a1.lkb i hi (z ▸ bD)
  refine lc_it (σ := σ) (H1 := H1) (D := Dd) (Qd := fun H => Q (.ref Dd) H) w
    (fun j H => ∃ ej sj Gj acc xs, AOk K W.A (upd B1 Dd (.lst xs)) Gj H lk1 LA1 (wipe σ vs) ej sj ∧ Ext B1 G1 Gj ∧ Gj Dd = none ∧ DqA K Gj xs acc ∧
      turns vs (bindT itg lk1) (evT W.gl W.calls icnd lk1) (evE W.gl W.calls ielt lk1) (ds.drop j) ej sj acc = some (out, e2, s2))
    ⟨_, _, G1, [], [], (a1.enter hD).wiped, Ext.refl, a1.gnone hD, .nil, by simpa using ht⟩ ?_ ?_ ?_
  · rintro j H _ ⟨ej, sj, Gj, acc, xs, a, ext, gD, q, t⟩
    refine hGd H (ext.1.trans a.sub) fun b u hb n1 n2 => a.frm b u ?_ n1 n2
    rw [upd_ne (fun z => by rw [z, bD] at hb; cases hb)]; exact hb
  · rintro j x H H' hj ⟨ej, sj, Gj, acc, xs, a, ext, gD, q, t⟩ y
    obtain ⟨d, hd, alt⟩ := hy j H x H' hj y
    rw [drop_at hd] at t
    unfold turns at t
    obtain ⟨e3, h3, t⟩ := bind_some t
    obtain ⟨⟨b, e4, s4⟩, h4, t⟩ := bind_some t
    have key : AOk K W.A (upd B1 Dd (.lst xs)) Gj H' lk1 LA1 (wipe σ vs) ej sj ∧ VB K (isTT itg) Gj H' x d := by
      rcases alt with ⟨rfl, dq⟩ | ⟨tt, T, v, u, d1, d2, rfl, hT, rfl, rfl, q1, q2⟩
      · exact ⟨a, Or.inl (dp_same ext.1 dq)⟩
      · exact ⟨a.new hT, Or.inr ⟨tt, T, [v, u], [d1, d2], rfl, rfl, upd_same, .cons (dp_same ext.1 q1) (.cons (dp_same ext.1 q2) .nil)⟩⟩
    obtain ⟨a', vb⟩ := key
    refine ⟨_, Gj, LA1, ej, sj, d, e3, a', h3, vb, fun σ' a3 hw => ?_⟩
    have hwv : wipe σ' vs = wipe σ vs := (hw vs hsl).trans (wipe_idem σ vs)
    refine ⟨hwv, _, Gj, LA1, e3, sj, b, e4, s4, a3, h4, fun G4 H4 a4 ext4 => ?_⟩
    have gD4 : G4 Dd = none := ext4.gnone gD
    have ext4' : Ext B1 G1 G4 := ext.trans (ext4.sub (same_base bD))
    cases b with
    | false =>
      exact ⟨_, _, G4, acc, xs, a4.wiped' hwv, ext4', gD4, dpA_same ext4.1 q, t⟩
    | true =>
      dsimp only at t
      obtain ⟨⟨c, e5, s5⟩, h5, t⟩ := bind_some t
      obtain ⟨z, h6, t⟩ := bind_some t
      split at t
      · rename_i hz
        refine ⟨_, G4, LA1, e4, s4, c, e5, s5, a4, h5, fun v G5 H5 a5 ext5 cok => ?_⟩
        obtain ⟨G6, a6, ext6, dq⟩ := a5.freeze cok h6
        have gD6 : G6 Dd = none := ext6.gnone (ext5.gnone gD4)
        have q6 : DqA K G6 xs acc := dpA_same (ext4.1.trans (ext5.1.trans ext6.1)) q
        refine ⟨xs, a6.frm Dd _ upd_same m1 m2, by rw [dpA_len q6]; exact of_decide_eq_true hz, _, _, G6, acc ++ [z], xs ++ [v], ?_, ext4'.trans ((ext5.trans ext6).sub (same_base bD)), gD6, dpA_app q6 (.cons dq .nil), t⟩
        exact (a6.step m1 m2 gD6 hl).wiped' hwv
      · cases t
  · rintro H ⟨ej, sj, Gj, acc, xs, a, ext, gD, q, t⟩
    rw [List.drop_length] at t
    unfold turns at t
    cases t
    have ab := a.back a1 ext.1 hf
    refine k Gj H (ab.leave bD hl) ext ⟨⟨Dd, xs, rfl, a.frm Dd _ upd_same m1 m2, q⟩, fun _ => ⟨Dd, rfl, bD, gD, m1, m2, fun i c' h1 h2 h3 h4 => ?_⟩⟩
    obtain ⟨_, _, _, n4⟩ := ab.own i c' Dd h1 h2 h4
    have := (n4 h3).1
    rw [upd_same] at this
    cases this
end
section
variable {W : Wd} {K : PySem.W.Frag} {lk : List Nat} {it itg icnd ielt : IR} {vs : List Nat}
theorem comp_mono {σ : L2.St} {H : Hp} {Q : VK} (h : tE W K lk (.comp vs it itg icnd ielt) σ H Q) :
    tLc (iI W K lk (isTT itg) it) (gB W K (lksOf it ++ lk) itg) (tT W K (lksOf it ++ lk) icnd) (tE W K (lksOf it ++ lk) ielt) vs σ H Q := by
  obtain ⟨B, G, LA, e, s, c, e', s', a, ev, k⟩ := h
  unfold evE at ev
  obtain ⟨⟨ds, lks, e1, s1⟩, hI, h2⟩ := bind_some ev
  have hlks := evI_lks hI
  subst hlks
  dsimp only at h2
  split at h2
  · rename_i hc
    rw [Bool.and_eq_true] at hc
    obtain ⟨⟨out, e2, s2⟩, ht, h3⟩ := map_some h2
    cases h3
    have hsl : ∀ i ∈ slotsT itg, i ∈ vs := fun i hi => by simpa using List.all_eq_true.mp hc.2 i hi
    refine ⟨B, G, LA, e, s, ds, lksOf it, e1, s1, a, hI, fun J G1 H1 a1 ext1 jok Dd hD => ?_⟩
    obtain ⟨Gd, Y, w, hlk, hy⟩ := jok
    rcases hlk with ⟨hl0, hg⟩ | ⟨i, p, xs, hl1, hc1, hσ, hp, hg⟩
    · rw [hl0] at ht ⊢
      exact comp_core a1 hD w (fun H' sm _ => hg H' sm) hy ht hc.1 hsl fun G' H' a2 ext2 cok => k _ G' H' a2 (ext1.trans ext2) cok
    · rw [hl1] at ht ⊢
      obtain ⟨m1, m2, m3, m4⟩ := a1.own i _ p hc1 rfl hσ
      have al := a1.lock hc1 rfl hσ hp
      refine comp_core al hD w (fun H' _ fr => hg H' (fr p _ upd_same m1 m2)) hy ht hc.1 hsl fun G' H' a2 ext2 cok => ?_
      have hin : i ∈ lk → B p = some (.lst xs) ∧ LA i = p := fun hi => by
        obtain ⟨z1, z2⟩ := m3 hi
        refine ⟨?_, z1.symm⟩
        cases y : B p with
        | none => exact absurd y z2
        | some u =>
          have := a1.frm p u y m1 m2
          rw [hp] at this
          cases this
          rfl
      have hout : i ∉ lk → B p = none ∧ G' p = none := fun hi => ⟨(m4 hi).1, ext2.gnone (m4 hi).2⟩
      have sameB : Same B (upd B p (.lst xs)) := fun b u q => by
        by_cases z : b = p
        · by_cases hi : i ∈ lk
          · rw [z] at q ⊢
            rw [upd_same, ← (hin hi).1]; exact q
          · rw [z, (hout hi).1] at q; cases q
        · rw [upd_ne z]; exact q
      exact k _ G' H' (a2.unlock hin hout a1.lkb) (ext1.trans (ext2.sub sameB)) (cok.unlock a2 sameB)
  · cases h2
end
section
variable {X : Cx} {W : Wd} {N : List Str} {sc : Scope} {fs : List Str} {lk : List Nat} {pos : Pos} {it itg icnd ielt : IR} {elt tg iter : Expr} {ifs : List Expr} {scope : Scope} {own : List (Str × Nat)}
def cells (scope : Scope) : List Str := scope.names.filterMap fun y => if y.2 == .cell then some y.1 else none
variable {fs' : List Str}
theorem GX.blk (g : GX X W N sc fs) {s : Shared} {H : Hp} {cl : List (Str × Addr)} {C : Addr} {fp : List Addr} (hcs : fs'.all (fun x => scope.names.lookup x == some .cell) = true) : GX (X.blk s H scope (compEnvC scope cl C X.env) fp) W N (relS scope sc) fs' where
  hN := g.hN
  hsc := by show relS scope X.env.scope = _; rw [g.hsc]
  nd := g.nd
  calm := g.calm
  gu := g.gu
  room := g.room
  xe := rfl
  fn := fun x hx => List.all_eq_true.mp hcs x hx
  blt := g.blt
  defs := g.defs
def iterB : Expr → Bool
  | .Set _ _ _ => false
  | _ => true
theorem folded {e : Expr} (h : iterB e = true) (env : Env) : ∀ x, foldedSetIterable e env x = pure x := fun x => by
  cases e <;> first
    | rfl
    | cases h
theorem s_comp (g : GX X W N sc fs) (ok : blkC N sc scope own = true) (hcs : fs'.all (fun x => scope.names.lookup x == some .cell) = true) (hib : iterB iter = true) (hi : PI X tg iter (iI W X.K lk (isTT itg) it))
    (hg : ∀ X' : Cx, X'.K = X.K → GX X' W N (relS scope sc) fs' → PG X' tg (gB W X'.K (lksOf it ++ lk) itg))
    (ht : ∀ X' : Cx, X'.K = X.K → GX X' W N (relS scope sc) fs' → PTs X' ifs (tT W X'.K (lksOf it ++ lk) icnd))
    (he : ∀ X' : Cx, X'.K = X.K → GX X' W N (relS scope sc) fs' → PE X' elt (tE W X'.K (lksOf it ++ lk) ielt)) :
    PE X (.ListComp elt [⟨tg, iter, ifs, 0⟩] scope pos) (tE W X.K lk (.comp (own.map (·.2)) it itg icnd ielt)) :=
  pe_weak (pe_lc g.calm (by rw [g.hN]; exact g.nd) hi (blkOk_by (by rw [g.hN, g.hsc]; exact ok)) (fun s H C cl fp => hg (X.blk s H scope (compEnvC scope cl C X.env) fp) rfl (g.blk hcs)) (fun s H C cl fp => ht (X.blk s H scope (compEnvC scope cl C X.env) fp) rfl (g.blk hcs)) (fun s H C cl fp => he (X.blk s H scope (compEnvC scope cl C X.env) fp) rfl (g.blk hcs)) (folded hib _))
    fun σ H Q h => comp_mono h
theorem s_ifs0 : PTs X [] (tT W X.K lk .yes) := ⟨fun pins s σ H Q I ⟨B, G, LA, e, s0, b, e', s', a, ev, k⟩ => pts_nil.run pins s σ H Q I (by
  unfold evT at ev
  cases ev
  exact k G H a Ext.refl)⟩
theorem s_ifs1 {c : Expr} (h : PT X c (tT W X.K lk icnd)) : PTs X [c] (tT W X.K lk icnd) := pts_one h
end
end GW

namespace GW
open PySem PySem.Spec PyProof.Rows L2

/-- what is wanted of a block's end -/
def EndOk (W : Wd) (K : PySem.W.Frag) (lk : List Nat) (B G : Hp) (LA : Nat → Addr) (D : Ends) (f : Fl) (e' : Sl) (s' : Src) : Prop :=
  match f with
  | .nx => ∀ σ' G' H', AOk K W.A B G' H' lk LA σ' e' s' → Ext B G G' → D.nx σ' H'
  | .bk => ∀ σ' G' H', AOk K W.A B G' H' lk LA σ' e' s' → Ext B G G' → D.bk σ' H'
  | .ct => ∀ σ' G' H', AOk K W.A B G' H' lk LA σ' e' s' → Ext B G G' → D.ct σ' H'
  | .rt c => ∀ v σ' G' H', AOk K W.A B G' H' lk LA σ' e' s' → Ext B G G' → COk K W.A B G' H' lk σ' e' c v → D.rt v H'
def tS (W : Wd) (K : PySem.W.Frag) (lk : List Nat) (ir : IR) : TS := fun D σ H => ∃ B G LA e s f e' s', AOk K W.A B G H lk LA σ e s ∧ evS W.gl W.calls ir lk e s = some (f, e', s') ∧ EndOk W K lk B G LA D f e' s'
def tSs (W : Wd) (K : PySem.W.Frag) (lk : List Nat) (ir : IR) : TS := fun D σ H => ∃ B G LA e s f e' s', AOk K W.A B G H lk LA σ e s ∧ evSs W.gl W.calls ir lk e s = some (f, e', s') ∧ EndOk W K lk B G LA D f e' s'
theorem EndOk.later {W : Wd} {K : PySem.W.Frag} {lk : List Nat} {B G G1 : Hp} {LA : Nat → Addr} {D : Ends} {f : Fl} {e' : Sl} {s' : Src} (h : EndOk W K lk B G LA D f e' s') (ext : Ext B G G1) : EndOk W K lk B G1 LA D f e' s' := by
  cases f with
  | nx => exact fun σ' G' H' a x => h σ' G' H' a (ext.trans x)
  | bk => exact fun σ' G' H' a x => h σ' G' H' a (ext.trans x)
  | ct => exact fun σ' G' H' a x => h σ' G' H' a (ext.trans x)
  | rt c => exact fun v σ' G' H' a x => h v σ' G' H' a (ext.trans x)
section
variable {X : Cx} {W : Wd} {N : List Str} {sc : Scope} {fs : List Str} {lk : List Nat} {pos : Pos} {a b c : Expr} {ia ib ic ir it itg ibd : IR} {st : Stmt} {sts as bs : List Stmt}
/-- a value to a target -/
def gP (W : Wd) (K : PySem.W.Frag) (lk : List Nat) (ir : IR) : TG := fun v σ H Q => ∃ B G LA e s c e' s', AOk K W.A B G H lk LA σ e s ∧ putT W.gl W.calls ir lk c e s = some (e', s') ∧ COk K W.A B G H lk σ e c v ∧
  ∀ σ' G' H', AOk K W.A B G' H' lk LA σ' e' s' → Ext B G G' → Q σ' H'
theorem putT_name {i : Nat} {c : Ct} {e e' : Sl} {s s' : Src} (h : putT W.gl W.calls (.tname i) lk c e s = some (e', s')) : i ∉ lk ∧ i < e.length ∧ c ≠ .s ∧ e' = e.set i (some c) ∧ s' = s := by
  have key : (lk.contains i || decide (e.length ≤ i)) = false := by
    cases y : (lk.contains i || decide (e.length ≤ i)) with
    | false => rfl
    | true =>
      have h' : (if (lk.contains i || decide (e.length ≤ i)) = true then none else match c with
        | .s => none
        | c => some (e.set i (some c), s)) = some (e', s') := h
      rw [if_pos y] at h'
      cases h'
  have h' : (if (lk.contains i || decide (e.length ≤ i)) = true then none else match c with
        | .s => none
        | c => some (e.set i (some c), s)) = some (e', s') := h
  rw [if_neg (by rw [key]; exact Bool.false_ne_true)] at h'
  simp only [Bool.or_eq_false_iff, decide_eq_false_iff_not] at key
  refine ⟨fun z => by simp [z] at key, by omega, ?_⟩
  cases c <;> first
    | (cases h'; exact ⟨by simp, rfl, rfl⟩)
    | cases h'
theorem putT_tup {ts : IR} {c : Ct} {e e' : Sl} {s s' : Src} (h : putT W.gl W.calls (.ttup ts) lk c e s = some (e', s')) : ∃ d, c = .v d ∧ bindT (.ttup ts) lk d e = some e' ∧ s' = s := by
  cases c with
  | v d =>
    obtain ⟨e1, h1, h2⟩ := map_some (show (bindT (.ttup ts) lk d e).map (fun σ1 => (σ1, s)) = some (e', s') from h)
    cases h2
    exact ⟨d, rfl, h1, rfl⟩
  | _ => cases h
theorem gp_name (g : GX X W N sc fs) {i : Nat} {x : Str} (h : tgB N sc fs i x = true) : PG X (.Name x pos) (gP W X.K lk (.tname i)) := by
  unfold tgB at h
  rw [Bool.and_eq_true] at h
  obtain ⟨h1, h2⟩ := g.loc h.2
  have hi : X.N[i]? = some x := by rw [g.hN]; exact of_decide_eq_true h.1
  refine ⟨fun pins s σ H v u Q I r ⟨B, G, LA, e, s0, c, e', s', a, ev, cok, k⟩ => ?_⟩
  refine (pg_name (pos := pos) (by rw [g.hN]; exact g.nd) hi h1 h2).run pins s σ H v u Q I r ?_
  show Q (σ.set i (some v)) H
  obtain ⟨hik, hlt, _, rfl, rfl⟩ := putT_name ev
  exact k _ G H (a.put cok hik hlt) Ext.refl
theorem gp_tup (h : PG X a (gB W X.K lk (.ttup it))) : PG X a (gP W X.K lk (.ttup it)) := by
  refine ⟨fun pins s σ H v u Q I r ⟨B, G, LA, e, s0, c, e', s', a, ev, cok, k⟩ => ?_⟩
  refine h.run pins s σ H v u Q I r ?_
  obtain ⟨d, rfl, h1, rfl⟩ := putT_tup ev
  exact ⟨B, G, LA, e, _, d, e', a, h1, Or.inl cok.1, fun σ' a' _ => k σ' G H a' Ext.refl⟩
def notComp : Expr → Bool
  | .ListComp _ _ _ _ => false
  | .SetComp _ _ _ _ => false
  | .DictComp _ _ _ _ _ => false
  | _ => true
theorem sw_false {e : Expr} (h : notComp e = true) (t : Option Expr) (l : Nat) (env : Env) : swapsWith e t l env = pure false := by
  cases e <;> first
    | rfl
    | cases h
def tgOk : Expr → Expr → Bool
  | .Tuple _ _ _, .Tuple _ _ _ => false
  | .Tuple _ _ _, _ => true
  | .Name _ _, _ => true
  | .Subscript _ _ _, _ => true
  | _, _ => false
theorem st_none {t e : Expr} (h : tgOk t e = true) (env : Env) : swappedStores [t] e env = pure none := by
  cases t <;> first
    | rfl
    | (cases e <;> first | rfl | cases h)
    | cases h
theorem asg_mono {t : TG} {σ : L2.St} {H : Hp} {D : Ends} (h : tS W X.K lk (.asg it ia) D σ H) : tAsg (tE W X.K lk ia) (gP W X.K lk it) D σ H := by
  obtain ⟨B, G, LA, e, s, f, e', s', a, ev, k⟩ := h
  obtain ⟨⟨c, e1, s1⟩, h1, h2⟩ := bind_some (show (evE W.gl W.calls ia lk e s).bind _ = some (f, e', s') from ev)
  obtain ⟨⟨e2, s2⟩, h3, h4⟩ := map_some h2
  cases h4
  refine ⟨B, G, LA, e, s, c, e1, s1, a, h1, fun v G1 H1 a1 ext1 cok => ?_⟩
  exact ⟨B, G1, LA, e1, s1, c, e', s', a1, h3, cok, fun σ' G2 H2 a2 ext2 => k σ' G2 H2 a2 (ext1.trans ext2)⟩
theorem s_asg {t : Expr} (nc : notComp a = true) (tk : tgOk t a = true) (pt : plainTg t = true) (hg : PG X t (gP W X.K lk it)) (ha : PE X a (tE W X.K lk ia)) : PS X (.Assign [t] a pos) (tS W X.K lk (.asg it ia)) :=
  ps_weak (ps_asg ha hg (sw_false nc _ _ _) (st_none tk _) (by rw [assignEach_cons pt]; rfl)) fun D σ H h => asg_mono (t := fun _ _ _ _ => True) h
theorem s_exp (nc : notComp a = true) (ha : PE X a (tE W X.K lk ia)) : PS X (.Expr a pos) (tS W X.K lk (.exp ia)) := by
  refine ps_weak (ps_expr ha (sw_false nc _ _ _)) fun D σ H ⟨B, G, LA, e, s, f, e', s', a, ev, k⟩ => ?_
  obtain ⟨⟨c, e1, s1⟩, h1, h2⟩ := bind_some (show (evE W.gl W.calls ia lk e s).bind _ = some (f, e', s') from ev)
  cases h2
  exact ⟨B, G, LA, e, s, c, e', s', a, h1, fun v G1 H1 a1 ext1 cok => k σ G1 H1 a1 ext1⟩
theorem s_ret (ha : PE X a (tE W X.K lk ia)) : PS X (.Return (some a) pos) (tS W X.K lk (.ret ia)) := by
  refine ps_weak (ps_ret ha) fun D σ H ⟨B, G, LA, e, s, f, e', s', a, ev, k⟩ => ?_
  obtain ⟨⟨c, e1, s1⟩, h1, h2⟩ := bind_some (show (evE W.gl W.calls ia lk e s).bind _ = some (f, e', s') from ev)
  dsimp only at h2
  split at h2
  · cases h2
  · cases h2
    exact ⟨B, G, LA, e, s, _, e', s', a, h1, fun v G1 H1 a1 ext1 cok => k v σ G1 H1 a1 ext1 cok⟩
theorem s_retN : PS X (.Return none pos) (tS W X.K lk .retN) := by
  refine ps_weak ps_retN fun D σ H ⟨B, G, LA, e, s, f, e', s', a, ev, k⟩ => ?_
  unfold evS at ev
  cases ev
  exact k .non σ G H a Ext.refl (COk.v .non)
theorem s_pass : PS X (.Pass pos) (tS W X.K lk .pas) := by
  refine ps_weak ps_pass fun D σ H ⟨B, G, LA, e, s, f, e', s', a, ev, k⟩ => ?_
  unfold evS at ev
  cases ev
  exact k σ G H a Ext.refl
theorem s_brk : PS X (.Break pos) (tS W X.K lk .brk) := by
  refine ps_weak ps_break fun D σ H ⟨B, G, LA, e, s, f, e', s', a, ev, k⟩ => ?_
  unfold evS at ev
  cases ev
  exact k σ G H a Ext.refl
theorem s_cont : PS X (.Continue pos) (tS W X.K lk .cont) := by
  refine ps_weak ps_continue fun D σ H ⟨B, G, LA, e, s, f, e', s', a, ev, k⟩ => ?_
  unfold evS at ev
  cases ev
  exact k σ G H a Ext.refl
theorem ss_nil : PSs X [] (tSs W X.K lk .nil) := by
  refine pss_weak pss_nil fun D σ H ⟨B, G, LA, e, s, f, e', s', a, ev, k⟩ => ?_
  unfold evSs at ev
  cases ev
  exact k σ G H a Ext.refl
theorem ss_cons (h1 : PS X st (tS W X.K lk ia)) (h2 : PSs X sts (tSs W X.K lk ir)) : PSs X (st :: sts) (tSs W X.K lk (.cons ia ir)) := by
  refine pss_weak (pss_cons h1 h2) fun D σ H ⟨B, G, LA, e, s, f, e', s', a, ev, k⟩ => ?_
  obtain ⟨⟨f1, e1, s1⟩, h1, h2⟩ := bind_some (show (evS W.gl W.calls ia lk e s).bind _ = some (f, e', s') from ev)
  dsimp only at h2
  refine ⟨B, G, LA, e, s, f1, e1, s1, a, h1, ?_⟩
  cases f1 with
  | nx => exact fun σ1 G1 H1 a1 ext1 => ⟨B, G1, LA, e1, s1, f, e', s', a1, h2, k.later ext1⟩
  | bk => cases h2; exact k
  | ct => cases h2; exact k
  | rt c => cases h2; exact k
theorem s_if (hc : PT X c (tT W X.K lk ic)) (ha : PSs X as (tSs W X.K lk ia)) (hb : PSs X bs (tSs W X.K lk ib)) : PS X (.If c as bs pos) (tS W X.K lk (.if_ ic ia ib)) := by
  refine ps_weak (ps_if hc ha hb) fun D σ H ⟨B, G, LA, e, s, f, e', s', a, ev, k⟩ => ?_
  obtain ⟨⟨t, e1, s1⟩, h1, h2⟩ := bind_some (show (evT W.gl W.calls ic lk e s).bind _ = some (f, e', s') from ev)
  dsimp only at h2
  refine ⟨B, G, LA, e, s, t, e1, s1, a, h1, fun G1 H1 a1 ext1 => ?_⟩
  cases t with
  | true => exact ⟨B, G1, LA, e1, s1, f, e', s', a1, h2, k.later ext1⟩
  | false => exact ⟨B, G1, LA, e1, s1, f, e', s', a1, h2, k.later ext1⟩
theorem GX.passes (g : GX X W N sc fs) : PassesOwn (model X.prog X.w) X.A X.env X.xe := by
  rw [g.xe]
  exact PassesOwn.never
theorem s_while (g : GX X W N sc fs) (hc : PT X c (tT W X.K lk ic)) (hb : PSs X as (tSs W X.K lk ib)) : PS X (.While c as [] pos) (tS W X.K lk (.whl ic ib)) := by
  refine ps_weak (ps_while g.passes hc hb) fun D σ H ⟨B, G, LA, e, s, f, e', s', a, ev, k⟩ => ?_
  have ev' : again (evT W.gl W.calls ic lk) (evSs W.gl W.calls ib lk) turnsMost e s = some (f, e', s') := ev
  refine ⟨fun m σ H => ∃ G1 e1 s1, AOk X.K W.A B G1 H lk LA σ e1 s1 ∧ Ext B G G1 ∧ again (evT W.gl W.calls ic lk) (evSs W.gl W.calls ib lk) m e1 s1 = some (f, e', s'), ⟨_, G, e, s, a, Ext.refl, ev'⟩, ?_⟩
  rintro m σ1 H1 ⟨G1, e1, s1, a1, ext1, ag⟩
  cases m with
  | zero => cases ag
  | succ m =>
    unfold again at ag
    obtain ⟨⟨t, e2, s2⟩, h1, h2⟩ := bind_some ag
    refine ⟨B, G1, LA, e1, s1, t, e2, s2, a1, h1, fun G2 H2 a2 ext2 => ?_⟩
    cases t with
    | false =>
      cases h2
      rw [if_neg Bool.false_ne_true]
      exact k σ1 G2 H2 a2 (ext1.trans ext2)
    | true =>
      rw [if_pos rfl]
      obtain ⟨⟨fl, e3, s3⟩, h3, h4⟩ := bind_some h2
      refine ⟨fun σ' H' => ∃ G1 e1 s1, AOk X.K W.A B G1 H' lk LA σ' e1 s1 ∧ Ext B G G1 ∧ again (evT W.gl W.calls ic lk) (evSs W.gl W.calls ib lk) m e1 s1 = some (f, e', s'), fun σ' H' h => ⟨m, Nat.lt_succ_self m, h⟩, ?_⟩
      refine ⟨B, G2, LA, e2, s2, fl, e3, s3, a2, h3, ?_⟩
      have ext12 := ext1.trans ext2
      cases fl with
      | nx => exact fun σ' G' H' a' x => ⟨G', e3, s3, a', ext12.trans x, h4⟩
      | ct => exact fun σ' G' H' a' x => ⟨G', e3, s3, a', ext12.trans x, h4⟩
      | bk =>
        cases h4
        exact fun σ' G' H' a' x => k σ' G' H' a' (ext12.trans x)
      | rt c =>
        cases h4
        exact fun v σ' G' H' a' x => k v σ' G' H' a' (ext12.trans x)
theorem for_core {K : PySem.W.Frag} {B1 G1 H1 : Hp} {lk1 : List Nat} {LA1 : Nat → Addr} {σ : L2.St} {e1 e2 : Sl} {s1 s2 : Src} {J : It} {ds : List D} {Gd : Hp → Prop} {Y : Nat → Hp → V → Hp → Prop} {f : Fl} {De : Ends}
    (a1 : AOk K W.A B1 G1 H1 lk1 LA1 σ e1 s1) (w : Walk J ds.length Gd Y) (hGd : ∀ H', Same G1 H' → Frm W.A B1 H' → Gd H')
    (hy : ∀ j H1 x H2, j < ds.length → Y j H1 x H2 → ∃ d, ds[j]? = some d ∧
      ((H2 = H1 ∧ Dq K G1 x d) ∨ (isTT itg = true ∧ ∃ T v w d1 d2, x = .ref T ∧ H1 T = none ∧ H2 = upd H1 T (.tup [v, w]) ∧ d = .tuple [d1, d2] ∧ Dq K G1 v d1 ∧ Dq K G1 w d2)))
    (hw : walk (bindT itg lk1) (evSs W.gl W.calls ibd lk1) ds e1 s1 = some (f, e2, s2)) (k : EndOk W K lk1 B1 G1 LA1 De f e2 s2) :
    ∃ Wn : Nat → Nat → L2.St → Hp → Prop, (∃ m, Wn 0 m σ H1) ∧ ∀ i m σ H, Wn i m σ H →
      (J.stop i H ∧ De.nx σ H) ∨ (J.go i H ∧ ∃ Nn : L2.St → Hp → Prop, (∀ σ' H', Nn σ' H' → ∃ m', m' < m ∧ Wn (i + 1) m' σ' H') ∧ ∀ x H', J.yld i H x H' → gB W K lk1 itg x σ H' fun σ2 H2 => tSs W K lk1 ibd { De with nx := Nn, ct := Nn, bk := De.nx } σ2 H2) := by
  refine for_it w (fun j σ H => ∃ ej sj Gj, AOk K W.A B1 Gj H lk1 LA1 σ ej sj ∧ Ext B1 G1 Gj ∧ walk (bindT itg lk1) (evSs W.gl W.calls ibd lk1) (ds.drop j) ej sj = some (f, e2, s2)) ⟨e1, s1, G1, a1, Ext.refl, hw⟩ ?_ ?_ ?_
  · rintro j σ H _ ⟨ej, sj, Gj, a, ext, t⟩
    exact hGd H (ext.1.trans a.sub) a.frm
  · rintro j x σ H H' hj ⟨ej, sj, Gj, a, ext, t⟩ y
    obtain ⟨d, hd, alt⟩ := hy j H x H' hj y
    rw [drop_at hd] at t
    unfold walk at t
    obtain ⟨e3, h3, t⟩ := bind_some t
    obtain ⟨⟨fl, e4, s4⟩, h4, t⟩ := bind_some t
    have key : AOk K W.A B1 Gj H' lk1 LA1 σ ej sj ∧ VB K (isTT itg) Gj H' x d := by
      rcases alt with ⟨rfl, dq⟩ | ⟨tt, T, v, u, d1, d2, rfl, hT, rfl, rfl, q1, q2⟩
      · exact ⟨a, Or.inl (dp_same ext.1 dq)⟩
      · exact ⟨a.new hT, Or.inr ⟨tt, T, [v, u], [d1, d2], rfl, rfl, upd_same, .cons (dp_same ext.1 q1) (.cons (dp_same ext.1 q2) .nil)⟩⟩
    obtain ⟨a', vb⟩ := key
    refine ⟨B1, Gj, LA1, ej, sj, d, e3, a', h3, vb, fun σ' a3 _ => ?_⟩
    refine ⟨B1, Gj, LA1, e3, sj, fl, e4, s4, a3, h4, ?_⟩
    cases fl with
    | nx => exact fun σ' G' H' a' x => ⟨e4, s4, G', a', ext.trans x, t⟩
    | ct => exact fun σ' G' H' a' x => ⟨e4, s4, G', a', ext.trans x, t⟩
    | bk =>
      cases t
      exact fun σ' G' H' a' x => k σ' G' H' a' (ext.trans x)
    | rt c =>
      cases t
      exact fun v σ' G' H' a' x => k v σ' G' H' a' (ext.trans x)
  · rintro σ H ⟨ej, sj, Gj, a, ext, t⟩
    rw [List.drop_length] at t
    unfold walk at t
    cases t
    exact k σ Gj H a ext
theorem for_mono {K : PySem.W.Frag} {σ : L2.St} {H : Hp} {D : Ends} (h : tS W K lk (.for_ it itg ibd) D σ H) : tFor (iI W K lk (isTT itg) it) (gB W K (lksOf it ++ lk) itg) (tSs W K (lksOf it ++ lk) ibd) D σ H := by
  obtain ⟨B, G, LA, e, s, f, e', s', a, ev, k⟩ := h
  unfold evS at ev
  obtain ⟨⟨ds, lks, e1, s1⟩, hI, h2⟩ := bind_some ev
  have hlks := evI_lks hI
  subst hlks
  dsimp only at h2
  refine ⟨B, G, LA, e, s, ds, lksOf it, e1, s1, a, hI, fun J G1 H1 a1 ext1 jok => ?_⟩
  obtain ⟨Gd, Y, w, hlk, hy⟩ := jok
  rcases hlk with ⟨hl0, hg⟩ | ⟨i, p, xs, hl1, hc1, hσ, hp, hg⟩
  · rw [hl0] at h2 ⊢
    exact for_core a1 w (fun H' sm _ => hg H' sm) hy h2 (k.later ext1)
  · rw [hl1] at h2 ⊢
    obtain ⟨m1, m2, m3, m4⟩ := a1.own i _ p hc1 rfl hσ
    have al := a1.lock hc1 rfl hσ hp
    have hin : i ∈ lk → B p = some (.lst xs) ∧ LA i = p := fun hi => by
      obtain ⟨z1, z2⟩ := m3 hi
      refine ⟨?_, z1.symm⟩
      cases y : B p with
      | none => exact absurd y z2
      | some u =>
        have := a1.frm p u y m1 m2
        rw [hp] at this
        cases this
        rfl
    have hout : ∀ {G'}, Ext (upd B p (.lst xs)) G1 G' → i ∉ lk → B p = none ∧ G' p = none := fun ext2 hi => ⟨(m4 hi).1, ext2.gnone (m4 hi).2⟩
    have sameB : Same B (upd B p (.lst xs)) := fun b u q => by
      by_cases z : b = p
      · by_cases hi : i ∈ lk
        · rw [z] at q ⊢
          rw [upd_same, ← (hin hi).1]; exact q
        · rw [z, (m4 hi).1] at q; cases q
      · rw [upd_ne z]; exact q
    refine for_core al w (fun H' _ fr => hg H' (fr p _ upd_same m1 m2)) hy h2 ?_
    cases f with
    | nx => exact fun σ' G' H' a2 ext2 => k σ' G' H' (a2.unlock hin (hout ext2) a1.lkb) (ext1.trans (ext2.sub sameB))
    | bk => exact fun σ' G' H' a2 ext2 => k σ' G' H' (a2.unlock hin (hout ext2) a1.lkb) (ext1.trans (ext2.sub sameB))
    | ct => exact fun σ' G' H' a2 ext2 => k σ' G' H' (a2.unlock hin (hout ext2) a1.lkb) (ext1.trans (ext2.sub sameB))
    | rt c => exact fun v σ' G' H' a2 ext2 cok => k v σ' G' H' (a2.unlock hin (hout ext2) a1.lkb) (ext1.trans (ext2.sub sameB)) (cok.unlock a2 sameB)
theorem s_for (g : GX X W N sc fs) {t iter : Expr} (hib : iterB iter = true) (hi : PI X t iter (iI W X.K lk (isTT itg) it)) (hg : PG X t (gB W X.K (lksOf it ++ lk) itg)) (hb : PSs X as (tSs W X.K (lksOf it ++ lk) ibd)) :
    PS X (.For t iter as [] pos) (tS W X.K lk (.for_ it itg ibd)) :=
  ps_weak (ps_for g.passes g.calm hi hg hb (folded hib _)) fun D σ H h => for_mono h
end
end GW

namespace GW
open PySem PySem.Spec PyProof.Rows L2

section
variable {K : PySem.W.Frag} {A : Sa} {B G H G' H' : Hp} {lk : List Nat} {LA : Nat → Addr} {σ : L2.St} {e : Sl} {s s' : Src}
/-- several values, each by itself -/
inductive CsOk (K : PySem.W.Frag) (A : Sa) (B G H : Hp) (lk : List Nat) (σ : L2.St) (e : Sl) : List Ct → List V → Prop
  | nil : CsOk K A B G H lk σ e [] []
  | cons {c : Ct} {v : V} {cs : List Ct} {vs : List V} : COk K A B G H lk σ e c v → (isOwn c = true → ∀ (j : Nat) (c' : Ct), cs[j]? = some c' → isOwn c' = true → vs[j]? ≠ some v) → CsOk K A B G H lk σ e cs vs → CsOk K A B G H lk σ e (c :: cs) (v :: vs)
theorem CsOk.at {cs : List Ct} {vs : List V} (h : CsOk K A B G H lk σ e cs vs) : ∀ {j : Nat} {c : Ct} {v : V}, cs[j]? = some c → vs[j]? = some v → COk K A B G H lk σ e c v := by
  induction h with
  | nil => intro j c v h1; simp at h1
  | @cons c0 v0 cs vs h1 h2 h3 ih =>
    intro j c v q1 q2
    cases j with
    | zero =>
      simp at q1 q2
      subst q1 q2
      exact h1
    | succ j => exact ih (by simpa using q1) (by simpa using q2)
/-- a value by itself is held meanwhile -/
theorem AOk.hold {c : Ct} {v : V} {p : Addr} {o : HO} (a : AOk K A B G H lk LA σ e s) (h : COk K A B G H lk σ e c v) (ow : isOwn c = true) (ev : v = .ref p) (hp : H p = some o) : AOk K A (upd B p o) G H lk LA σ e s := by
  obtain ⟨p', e1, hb, hg, m1, m2, no⟩ := h.2 ow
  rw [ev] at e1
  cases e1
  have bn : ∀ {q}, B q ≠ none → upd B p o q ≠ none := fun {q} z => by
    by_cases y : q = p
    · rw [y, upd_same]; simp
    · rw [upd_ne y]; exact z
  refine { sub := a.sub, frm := fun q u hq n1 n2 => ?_, src := a.src, ngd := a.ngd, ngc := a.ngc, len := a.len, slot := a.slot, own := fun i c' q hc o' r => ?_, lkb := fun i hi => bn (a.lkb i hi), dis := a.dis }
  · by_cases y : q = p
    · rw [y, upd_same] at hq
      rw [y, hp]; exact hq
    · rw [upd_ne y] at hq
      exact a.frm q u hq n1 n2
  · obtain ⟨h1, h2, h3, h4⟩ := a.own i c' q hc o' r
    refine ⟨h1, h2, fun hi => ⟨(h3 hi).1, bn (h3 hi).2⟩, fun hi => ⟨?_, (h4 hi).2⟩⟩
    have hq : q ≠ p := fun y => no i c' hc o' hi (by rw [r, y])
    rw [upd_ne hq]; exact (h4 hi).1
theorem COk.leave {c : Ct} {v : V} {p : Addr} {o : HO} (a : AOk K A (upd B p o) G H lk LA σ e s) (h : COk K A (upd B p o) G H lk σ e c v) (hb : B p = none) : COk K A B G H lk σ e c v := by
  refine ⟨h.1, fun ow => ?_⟩
  obtain ⟨q, e1, hq, hg, m1, m2, no⟩ := h.2 ow
  refine ⟨q, e1, ?_, hg, m1, m2, no⟩
  have z : q ≠ p := fun z => by rw [z, upd_same] at hq; cases hq
  rw [upd_ne z] at hq; exact hq
theorem CsOk.leave {p : Addr} {o : HO} {cs : List Ct} {vs : List V} (a : AOk K A (upd B p o) G H lk LA σ e s) (h : CsOk K A (upd B p o) G H lk σ e cs vs) (hb : B p = none) : CsOk K A B G H lk σ e cs vs := by
  induction h with
  | nil => exact .nil
  | cons h1 h2 h3 ih => exact .cons (h1.leave a hb) h2 ih
theorem COk.grow {c : Ct} {v : V} {p : Addr} {o : HO} (h : COk K A B G H lk σ e c v) (hp : H p = none) : COk K A B G (upd H p o) lk σ e c v :=
  ⟨h.1.to (Same.refl G) fun ow q u ev hq => by rw [upd_ne (ne_of_none hq hp)]; exact hq, h.2⟩
theorem CsOk.grow {p : Addr} {o : HO} {cs : List Ct} {vs : List V} (h : CsOk K A B G H lk σ e cs vs) (hp : H p = none) : CsOk K A B G (upd H p o) lk σ e cs vs := by
  induction h with
  | nil => exact .nil
  | cons h1 h2 h3 ih => exact .cons (h1.grow hp) h2 ih
theorem COk.put {c c1 : Ct} {v v1 : V} {i : Nat} (h : COk K A B G H lk σ e c v) (hl : i < e.length) (hs : e.length = σ.length) (hd : isOwn c1 = true → isOwn c = true → v ≠ v1) : COk K A B G H lk (σ.set i (some v1)) (e.set i (some c1)) c v := by
  refine ⟨h.1, fun ow => ?_⟩
  obtain ⟨q, e1, hq, hg, m1, m2, no⟩ := h.2 ow
  refine ⟨q, e1, hq, hg, m1, m2, fun j c' hc ow' hj r => ?_⟩
  rw [at_set] at hc
  by_cases z : i = j
  · rw [if_pos ⟨z, hl⟩] at hc
    cases hc
    rw [← z, List.getElem?_set_self (by omega)] at r
    cases r
    exact hd ow' ow e1
  · rw [if_neg (fun y => z y.1)] at hc
    rw [List.getElem?_set_ne z] at r
    exact no j c' hc ow' hj r
theorem CsOk.put {c1 : Ct} {v1 : V} {i : Nat} {cs : List Ct} {vs : List V} (h : CsOk K A B G H lk σ e cs vs) (hl : i < e.length) (hs : e.length = σ.length) (hd : isOwn c1 = true → ∀ (j : Nat) (c' : Ct), cs[j]? = some c' → isOwn c' = true → vs[j]? ≠ some v1) :
    CsOk K A B G H lk (σ.set i (some v1)) (e.set i (some c1)) cs vs := by
  induction h with
  | nil => exact .nil
  | @cons c v cs vs h1 h2 h3 ih =>
    exact .cons (h1.put hl hs fun o1 o2 z => hd o1 0 c rfl o2 (by rw [z]; rfl)) h2 (ih fun o1 j c' q1 q2 => hd o1 (j + 1) c' (by simpa using q1) q2)
theorem AOk.freeze2 {c : Ct} {v : V} {d : D} (a : AOk K A B G H lk LA σ e s) (h : COk K A B G H lk σ e c v) (f : frz c = some d) : ∃ G', AOk K A B G' H lk LA σ e s ∧ Ext B G G' ∧ Dq K G' v d ∧ ∀ q, G' q ≠ none → G q ≠ none ∨ (isOwn c = true ∧ v = .ref q) := by
  cases c with
  | v d' =>
    cases f
    exact ⟨G, a, Ext.refl, h.1, fun q z => Or.inl z⟩
  | l ds =>
    obtain ⟨G', a', ext, dq⟩ := a.freeze h f
    cases f
    obtain ⟨⟨p, xs, rfl, hp, r⟩, o⟩ := id h
    obtain ⟨p', e', hb, hg, n1, n2, n3⟩ := o rfl
    cases e'
    -- the least frozen part
    have sg : Same G (upd G p (.lst xs)) := same_upd hg
    refine ⟨upd G p (.lst xs), ?_, Ext.new hg hb, .lst upd_same (dpA_same sg r), fun q z => ?_⟩
    · refine { sub := fun b x q => ?_, frm := a.frm, src := a.src, ngd := ?_, ngc := ?_, len := a.len, slot := fun i c h => ?_, own := fun i c q h o' e1 => ?_, lkb := a.lkb, dis := a.dis }
      · by_cases z : b = p
        · rw [z, upd_same] at q
          rw [z, hp]; exact q
        · rw [upd_ne z] at q; exact a.sub _ _ q
      · rw [upd_ne (Ne.symm n1)]; exact a.ngd
      · rw [upd_ne (Ne.symm n2)]; exact a.ngc
      · obtain ⟨v, e1, r'⟩ := a.slot i c h
        exact ⟨v, e1, r'.to sg fun _ _ _ _ q => q⟩
      · obtain ⟨h1, h2, h3, h4⟩ := a.own i c q h o' e1
        refine ⟨h1, h2, h3, fun hi => ⟨(h4 hi).1, ?_⟩⟩
        have z : q ≠ p := fun z => n3 i c h o' hi (by rw [e1, z])
        rw [upd_ne z]
        exact (h4 hi).2
    · by_cases y : q = p
      · exact Or.inr ⟨rfl, by rw [y]⟩
      · rw [upd_ne y] at z; exact Or.inl z
  | k _ => cases f
  | t _ => cases f
  | s => cases f
/-- data, each of them -/
def FzOk (K : PySem.W.Frag) (G : Hp) (cs : List Ct) (vs : List V) : Prop := Paired (fun c v => ∃ d, frz c = some d ∧ Dq K G v d) cs vs
theorem CsOk.freeze {cs : List Ct} {vs : List V} (hf : ∀ c ∈ cs, frz c ≠ none) : ∀ {G : Hp}, AOk K A B G H lk LA σ e s → CsOk K A B G H lk σ e cs vs → ∃ G', AOk K A B G' H lk LA σ e s ∧ Ext B G G' ∧ FzOk K G' cs vs := by
  induction cs generalizing vs with
  | nil =>
    intro G a h
    cases h
    exact ⟨G, a, Ext.refl, .nil⟩
  | cons c cs ih =>
    intro G a h
    cases h with
    | @cons _ v _ vs h1 h2 h3 =>
      obtain ⟨d, hd⟩ := Option.ne_none_iff_exists'.mp (hf c (by simp))
      obtain ⟨G1, a1, ext1, dq, nw⟩ := a.freeze2 h1 hd
      have h3' : CsOk K A B G1 H lk σ e cs vs := by
        clear ih hf
        induction h3 with
        | nil => exact .nil
        | @cons c' v' cs vs k1 k2 k3 ih =>
          refine .cons ⟨k1.1.to ext1.1 fun _ _ _ _ q => q, fun ow => ?_⟩ k2 (ih fun o1 j c'' q1 q2 => h2 o1 (j + 1) c'' (by simpa using q1) q2)
          obtain ⟨q, e1, hq, hg, m1, m2, no⟩ := k1.2 ow
          refine ⟨q, e1, hq, ?_, m1, m2, no⟩
          cases y : G1 q with
          | none => rfl
          | some u =>
            rcases nw q (some_of y) with z | ⟨o1, z⟩
            · exact absurd hg z
            · exact absurd (by rw [e1, z]; rfl) (h2 o1 0 c' rfl ow)
      obtain ⟨G2, a2, ext2, fz⟩ := ih (fun c hc => hf c (by simp [hc])) a1 h3'
      exact ⟨G2, a2, ext1.trans ext2, .cons ⟨d, hd, dp_same ext2.1 dq⟩ fz⟩
end
section
variable {X : Cx} {W : Wd} {N : List Str} {sc : Scope} {fs : List Str} {lk : List Nat} {pos : Pos} {a b c : Expr} {ia ib ic ir it : IR} {es ts : List Expr}
def tCs (W : Wd) (K : PySem.W.Frag) (lk : List Nat) (ir : IR) : TA := fun σ H Q => ∃ B G LA e s cs e' s', AOk K W.A B G H lk LA σ e s ∧ evCs W.gl W.calls ir lk e s = some (cs, e', s') ∧
  ∀ vs G' H', AOk K W.A B G' H' lk LA σ e' s' → Ext B G G' → CsOk K W.A B G' H' lk σ e' cs vs → Q vs H'
theorem s_cnil : PA X [] (tCs W X.K lk .nil) := by
  refine pa_weak pa_nil fun σ H Q ⟨B, G, LA, e, s, ds, e', s', a, ev, k⟩ => ?_
  cases ev
  exact k [] G H a Ext.refl .nil
theorem s_ccons (ns : notStar a = true) (ha : PE X a (tE W X.K lk ia)) (hr : PA X es (tCs W X.K lk ir)) : PA X (a :: es) (tCs W X.K lk (.cons ia ir)) := by
  refine pa_weak (pa_cons ha hr (starEach_cons ns es X.env)) fun σ H Q ⟨B, G, LA, e, s, cs, e', s', a, ev, k⟩ => ?_
  obtain ⟨⟨c, e1, s1⟩, h1, h2⟩ := bind_some (show (evE W.gl W.calls ia lk e s).bind _ = some (cs, e', s') from ev)
  obtain ⟨⟨cs', e2, s2⟩, h3, h4⟩ := map_some h2
  cases h4
  refine ⟨B, G, LA, e, s, c, e1, s1, a, h1, fun v G1 H1 a1 ext1 cok => ?_⟩
  by_cases ow : isOwn c = true
  · obtain ⟨p, rfl, hb, hg, m1, m2, no⟩ := cok.2 ow
    obtain ⟨p', o, e1', hp, _⟩ := cok.1.own ow
    cases e1'
    have ah := a1.hold cok ow rfl hp
    have hl : ∀ i ∈ lk, LA i ≠ p := fun i hi z => a1.lkb i hi (z ▸ hb)
    refine ⟨upd B p o, G1, LA, e1, s1, cs', e', s', ah, h3, fun vs G2 H2 a2 ext2 csok => ?_⟩
    have gp : G2 p = none := ext2.gnone hg
    have hp2 : H2 p = some o := a2.frm p o upd_same m1 m2
    refine k (.ref p :: vs) G2 H2 (a2.leave hb hl) (ext1.trans (ext2.sub (same_base hb))) (.cons ⟨cok.1.to ext2.1 fun _ q u e1 hq => ?_, fun _ => ⟨p, rfl, hb, gp, m1, m2, fun i c' q1 q2 q3 q4 => ?_⟩⟩ (fun _ j c' q1 q2 q3 => ?_) (csok.leave a2 hb))
    · cases e1
      rw [hp] at hq
      cases hq
      exact hp2
    · have := ((a2.own i c' p q1 q2 q4).2.2.2 q3).1
      rw [upd_same] at this
      cases this
    · obtain ⟨q, e1, hq, _⟩ := (csok.at q1 q3).2 q2
      cases e1
      rw [upd_same] at hq
      cases hq
  · have hv : isOwn c = false := by simpa using ow
    refine ⟨B, G1, LA, e1, s1, cs', e', s', a1, h3, fun vs G2 H2 a2 ext2 csok => ?_⟩
    exact k (v :: vs) G2 H2 a2 (ext1.trans ext2) (.cons ⟨cok.1.to ext2.1 fun z => absurd z ow, fun z => absurd z ow⟩ (fun z => absurd z ow) csok)

def gPs (W : Wd) (K : PySem.W.Frag) (lk : List Nat) (ir : IR) : TGs := fun vs σ H Q => ∃ B G LA e s cs e' s', AOk K W.A B G H lk LA σ e s ∧ putTs W.gl W.calls ir lk cs e s = some (e', s') ∧ CsOk K W.A B G H lk σ e cs vs ∧
  ∀ σ' G' H', AOk K W.A B G' H' lk LA σ' e' s' → Ext B G G' → Q σ' H'
theorem putTs_nil {cs : List Ct} {e e' : Sl} {s s' : Src} (h : putTs W.gl W.calls .nil lk cs e s = some (e', s')) : cs = [] ∧ e' = e ∧ s' = s := by
  cases cs with
  | nil => cases h; exact ⟨rfl, rfl, rfl⟩
  | cons c cs => cases h
theorem putTs_cons {cs : List Ct} {e e' : Sl} {s s' : Src} (h : putTs W.gl W.calls (.cons it ir) lk cs e s = some (e', s')) : ∃ c cs' e1 s1, cs = c :: cs' ∧ putT W.gl W.calls it lk c e s = some (e1, s1) ∧ putTs W.gl W.calls ir lk cs' e1 s1 = some (e', s') := by
  cases cs with
  | nil => cases h
  | cons c cs' =>
    obtain ⟨⟨e1, s1⟩, h1, h2⟩ := bind_some (show (putT W.gl W.calls it lk c e s).bind _ = some (e', s') from h)
    exact ⟨c, cs', e1, s1, rfl, h1, h2⟩
theorem gps_nil : PGs X [] (gPs W X.K lk .nil) := by
  refine ⟨fun pins s σ H vs us Q I r ⟨B, G, LA, e, s0, cs, e', s', a, ev, q, k⟩ => ?_⟩
  refine pgs_nil.run pins s σ H vs us Q I r ?_
  obtain ⟨rfl, rfl, rfl⟩ := putTs_nil ev
  cases q
  exact ⟨rfl, k σ G H a Ext.refl⟩
theorem gps_cons (g : GX X W N sc fs) {i : Nat} {x : Str} {p : Pos} (h : tgB N sc fs i x = true) (h2 : PGs X ts (gPs W X.K lk ir)) : PGs X (.Name x p :: ts) (gPs W X.K lk (.cons (.tname i) ir)) := by
  unfold tgB at h
  rw [Bool.and_eq_true] at h
  obtain ⟨k1, k2⟩ := g.loc h.2
  have hi : X.N[i]? = some x := by rw [g.hN]; exact of_decide_eq_true h.1
  refine ⟨fun pins s σ H vs us Q I r ⟨B, G, LA, e, s0, cs, e', s', a, ev, q, k⟩ => ?_⟩
  refine (pgs_cons (pg_name (pos := p) (by rw [g.hN]; exact g.nd) hi k1 k2) h2 (by rw [assignEach_cons rfl]; rfl)).run pins s σ H vs us Q I r ?_
  obtain ⟨c, cs', e1, s1, rfl, m1, m2⟩ := putTs_cons ev
  obtain ⟨hik, hlt, _, rfl, rfl⟩ := putT_name m1
  cases q with
  | @cons _ v _ vs q1 q2 q3 =>
    exact ⟨v, vs, rfl, B, G, LA, _, s1, cs', e', s', a.put q1 hik hlt, m2, q3.put hlt a.len q2, k⟩
/-- subscripts: the values are data -/
def gDs (W : Wd) (K : PySem.W.Frag) (lk : List Nat) (ir : IR) : TGs := fun vs σ H Q => ∃ B G LA e s cs e' s', AOk K W.A B G H lk LA σ e s ∧ putTs W.gl W.calls ir lk cs e s = some (e', s') ∧ FzOk K G cs vs ∧
  ∀ σ' G' H', AOk K W.A B G' H' lk LA σ' e' s' → Ext B G G' → Q σ' H'
theorem gds_nil : PGs X [] (gDs W X.K lk .nil) := by
  refine ⟨fun pins s σ H vs us Q I r ⟨B, G, LA, e, s0, cs, e', s', a, ev, q, k⟩ => ?_⟩
  refine pgs_nil.run pins s σ H vs us Q I r ?_
  obtain ⟨rfl, rfl, rfl⟩ := putTs_nil ev
  cases q
  exact ⟨rfl, k σ G H a Ext.refl⟩
/-- o[i] = v: a list or a dict -/
theorem setAt_form {lk : List Nat} {i : Nat} {y d : D} {e e' : Sl} (h : setAt lk i y d e = some e') : i ∉ lk ∧ ((∃ ds n j, at_ e i = some (.l ds) ∧ y = .int n ∧ ixN ds.length n = some j ∧ e' = e.set i (some (.l (ds.set j d)))) ∨
    ∃ kvs k, at_ e i = some (.k kvs) ∧ flatKey y = some k ∧ kvs.length < sizeLine ∧ e' = e.set i (some (.k (putKD kvs k d)))) := by
  unfold setAt at h
  split at h
  · cases h
  · rename_i hl
    refine ⟨fun z => hl (by simpa using z), ?_⟩
    split at h
    · rename_i ds hc
      split at h
      · rename_i n
        obtain ⟨j, h1, h2⟩ := map_some h
        exact Or.inl ⟨ds, n, j, hc, rfl, h1, h2.symm⟩
      · cases h
    · rename_i kvs hc
      obtain ⟨k, h1, h2⟩ := bind_some h
      split at h2
      · rename_i hz
        cases h2
        exact Or.inr ⟨kvs, k, hc, h1, of_decide_eq_true hz, rfl⟩
      · cases h2
    · cases h
end
end GW

namespace GW
open PySem PySem.Spec PyProof.Rows L2

section
variable {K : PySem.W.Frag} {G : Hp}
theorem kv_any {κ : Type} [DecidableEq κ] {ks : List (κ × V)} {kvs : List (κ × D)} (r : KvOk K G ks kvs) (k : κ) : (ks.any fun kv => decide (kv.1 = k)) = (kvs.any fun kv => decide (kv.1 = k)) := by
  unfold KvOk at r
  induction r with
  | nil => rfl
  | cons h t ih => rw [List.any_cons, List.any_cons, ih, h.1]
theorem kv_put {κ : Type} [DecidableEq κ] {ks : List (κ × V)} {kvs : List (κ × D)} (r : KvOk K G ks kvs) (k : κ) {v : V} {d : D} (q : Dq K G v d) : KvOk K G (putK ks k v) (putKD kvs k d) := by
  unfold putK putKD
  rw [kv_any r k]
  split
  · rename_i hz
    clear hz
    unfold KvOk at r ⊢
    induction r with
    | nil => exact .nil
    | @cons p p' ps ps' h t ih =>
      rw [List.map_cons, List.map_cons]
      refine .cons ?_ ih
      by_cases e : p.1 = k
      · rw [if_pos e, if_pos (h.1 ▸ e)]
        exact ⟨h.1, q⟩
      · rw [if_neg e, if_neg (h.1 ▸ e)]
        exact h
  · rename_i hz
    clear hz
    unfold KvOk at r ⊢
    induction r with
    | nil => exact .cons ⟨rfl, q⟩ .nil
    | cons h t ih => exact .cons h ih
theorem fzOk_same {G' : Hp} (h : Same G G') {cs : List Ct} {vs : List V} (r : FzOk K G cs vs) : FzOk K G' cs vs := Paired.mapP r fun _ _ ⟨d, h1, h2⟩ => ⟨d, h1, dp_same h h2⟩
end
section
variable {X : Cx} {W : Wd} {N : List Str} {sc : Scope} {fs : List Str} {lk : List Nat} {pos p : Pos} {a b c k : Expr} {ia ib ic ir it ik : IR} {es ts : List Expr} {i : Nat} {x : Str}
theorem sw_sole {e : Expr} (h : notComp e = true) (t : Expr) (l : Nat) (env : Env) : swapsWithSole [t] e l env = pure false := sw_false h (some t) l env
theorem set_any (hu : X.A.units + 1 < cLine) : PSet X (fun o i v H Q => rSetL o i v H Q ∨ rSetD o i v H Q) := by
  intro pins s σ H o i v ov iv u Q I ro ri rv h
  rcases h with h | h
  · exact set_list pins s σ H o i v ov iv u Q I ro ri rv h
  · exact set_dict hu pins s σ H o i v ov iv u Q I ro ri rv h
/-- what x[k] = v does -/
theorem set_mono {B G2 H1 : Hp} {LA : Nat → Addr} {σ : L2.St} {e1 e2 : Sl} {s1 : Src} {vy v : V} {y d : D} {Q : Hp → Prop} (a1 : AOk X.K W.A B G2 H1 lk LA σ e1 s1) (hs : setAt lk i y d e1 = some e2) (hy : Dq X.K G2 vy y) (hd : Dq X.K G2 v d) {vo : V} (ho : σ[i]? = some (some vo))
    (k : ∀ G' H', AOk X.K W.A B G' H' lk LA σ e2 s1 → Ext B G2 G' → Q H') : rSetL vo vy v H1 Q ∨ rSetD vo vy v H1 Q := by
  obtain ⟨hi, ⟨ds, n, j, hc, rfl, hj, rfl⟩ | ⟨kvs, ky, hc, hk, hz, rfl⟩⟩ := setAt_form hs
  · obtain ⟨v', e1', q, xs, rfl, hq, r⟩ := a1.slot i _ hc
    rw [ho] at e1'
    cases e1'
    cases hy
    refine Or.inl ⟨q, xs, n, j, rfl, rfl, hq, by rw [dpA_len r]; exact hj, ?_⟩
    exact k G2 _ (a1.change hc rfl hi ho (c' := .l (ds.set j d)) ⟨q, _, rfl, upd_same, dpA_set hd j r⟩ rfl) Ext.refl
  · obtain ⟨v', e1', q, ks, rfl, hq, r⟩ := a1.slot i _ hc
    rw [ho] at e1'
    cases e1'
    have ey := flatKey_v (K := X.K) (G := G2) (H := H1) (Or.inl hy) hk
    subst ey
    refine Or.inr ⟨q, _, rfl, DPut.k hq (by rw [kv_len r]; exact hz), ?_⟩
    exact k G2 _ (a1.change hc rfl hi ho (c' := .k (putKD kvs ky d)) ⟨q, _, rfl, upd_same, kv_put r ky hd⟩ rfl) Ext.refl
/-- the slot of a subscript's name has something -/
theorem evE_slot : True := trivial
def subB (N : List Str) (sc : Scope) (i : Nat) (x : Str) : Bool := nmB N sc i x
theorem sub_asg {o k : Expr} (hk : plainIx k = true) (pos : Pos) (env : Env) (hn : ∃ x p, o = .Name x p) : ∀ v, assign (.Subscript o k pos) env v = (do
      let ov ← holding [v] (eval o env)
      let iv ← holding [v, ov] (eval k env)
      standAt pos
      holding [v, ov, iv] (setItem ov iv v)
      release [v, ov, iv] []) := fun v => by
  obtain ⟨x, p, rfl⟩ := hn
  cases k <;> first
    | rfl
    | cases hk
def noList : IR → Bool
  | _ => true
/-- x[k] = value -/
theorem s_setit (g : GX X W N sc fs) {p2 : Pos} (hx : nmB N sc i x = true) (hk : plainIx k = true) (nc : notComp a = true) (ha : PE X a (tE W X.K lk ia)) (hb : PE X k (tE W X.K lk ik)) :
    PS X (.Assign [.Subscript (.Name x p) k p2] a pos) (tS W X.K lk (.setit i ik ia)) := by
  obtain ⟨n1, n2, n3⟩ := g.nm hx
  obtain ⟨d1, d2, _⟩ := okName_of n3
  have hu := g.units
  refine ps_weak (ps_asg ha (pg_sub (pe_var n1 (visB_vis n2) d1 d2) hb (set_any (by omega)) (sub_asg hk _ _ ⟨_, _, rfl⟩)) (sw_sole nc _ _ _) rfl rfl) fun D σ H ⟨B, G, LA, e, s, f, e', s', a, ev, kk⟩ => ?_
  obtain ⟨⟨c, e1, s1⟩, h1, h2⟩ := bind_some (show (evE W.gl W.calls ia lk e s).bind _ = some (f, e', s') from ev)
  obtain ⟨d, h3, h4⟩ := bind_some h2
  obtain ⟨c0, h0, h4⟩ := bind_some h4
  obtain ⟨⟨cy, e2, s2⟩, h5, h6⟩ := bind_some h4
  obtain ⟨y, h7, h8⟩ := bind_some h6
  obtain ⟨e3, h9, h10⟩ := map_some h8
  cases h10
  refine ⟨B, G, LA, e, s, c, e1, s1, a, h1, fun v G1 H1 a1 ext1 cok => ?_⟩
  obtain ⟨G2, a2, ext2, dq⟩ := a1.freeze cok h3
  obtain ⟨vo, ho, _⟩ := a2.slot i c0 h0
  refine ⟨vo, ho, B, G2, LA, e1, s1, cy, e2, s', a2, h5, fun vy G3 H3 a3 ext3 cok3 => ?_⟩
  obtain ⟨G4, a4, ext4, dy⟩ := a3.freeze cok3 h7
  exact set_mono a4 h9 dy (dp_same (ext3.1.trans ext4.1) dq) ho fun G5 H5 a5 ext5 => kk σ G5 H5 a5 (((ext1.trans ext2).trans (ext3.trans ext4)).trans ext5)
/-- a row of subscripts -/
theorem gds_cons (g : GX X W N sc fs) {p2 : Pos} (hx : nmB N sc i x = true) (hk : plainIx k = true) (hb : PE X k (tE W X.K lk ik)) (h2 : PGs X ts (gDs W X.K lk ir)) : PGs X (.Subscript (.Name x p) k p2 :: ts) (gDs W X.K lk (.cons (.tsub i ik) ir)) := by
  obtain ⟨n1, n2, n3⟩ := g.nm hx
  obtain ⟨d1, d2, _⟩ := okName_of n3
  have hu := g.units
  refine ⟨fun pins s σ H vs us Q I r ⟨B, G, LA, e, s0, cs, e', s', a, ev, q, kk⟩ => ?_⟩
  refine (pgs_cons (pg_sub (pos := p2) (pe_var n1 (visB_vis n2) d1 d2) hb (set_any (by omega)) (sub_asg hk _ _ ⟨_, _, rfl⟩)) h2 (by rw [assignEach_cons rfl]; rfl)).run pins s σ H vs us Q I r ?_
  obtain ⟨c, cs', e1, s1, rfl, m1, m2⟩ := putTs_cons ev
  cases q with
  | @cons _ v _ vs q1 q2 =>
    obtain ⟨d, hd, dq⟩ := q1
    obtain ⟨d', hd', m3⟩ := bind_some (show (frz c).bind _ = some (e1, s1) from m1)
    rw [hd] at hd'
    cases hd'
    obtain ⟨c0, h0, m3⟩ := bind_some m3
    obtain ⟨⟨cy, e2, s2⟩, h5, h6⟩ := bind_some m3
    obtain ⟨y, h7, h8⟩ := bind_some h6
    obtain ⟨e3, h9, h10⟩ := map_some h8
    cases h10
    obtain ⟨vo, ho, _⟩ := a.slot i c0 h0
    refine ⟨v, vs, rfl, vo, ho, B, G, LA, e, s0, cy, e2, s1, a, h5, fun vy G3 H3 a3 ext3 cok3 => ?_⟩
    obtain ⟨G4, a4, ext4, dy⟩ := a3.freeze cok3 h7
    exact set_mono a4 h9 dy (dp_same (ext3.1.trans ext4.1) dq) ho fun G5 H5 a5 ext5 =>
      ⟨B, G5, LA, e1, s1, cs', e', s', a5, m2, fzOk_same ((ext3.trans ext4).trans ext5).1 q2, fun σ' G6 H6 a6 ext6 => kk σ' G6 H6 a6 ((ext3.trans ext4).trans (ext5.trans ext6))⟩
theorem par_mono {D : Ends} {σ : L2.St} {H : Hp} {ts as : IR} (h : tS W X.K lk (.par ts as) D σ H) : tCs W X.K lk as σ H fun vs H1 => gPs W X.K lk ts vs σ H1 D.nx := by
  obtain ⟨B, G, LA, e, s, f, e', s', a, ev, kk⟩ := h
  obtain ⟨⟨cs, e1, s1⟩, h1, h2⟩ := bind_some (show (evCs W.gl W.calls as lk e s).bind _ = some (f, e', s') from ev)
  obtain ⟨⟨e2, s2⟩, h3, h4⟩ := map_some h2
  cases h4
  exact ⟨B, G, LA, e, s, cs, e1, s1, a, h1, fun vs G1 H1 a1 ext1 csok => ⟨B, G1, LA, e1, s1, cs, e', s', a1, h3, csok, fun σ' G2 H2 a2 ext2 => kk σ' G2 H2 a2 (ext1.trans ext2)⟩⟩
theorem csOk_len {A : Sa} {B G H : Hp} {σ : L2.St} {e : Sl} {cs : List Ct} {vs : List V} {K : PySem.W.Frag} (h : CsOk K A B G H lk σ e cs vs) : cs.length = vs.length := by
  induction h with
  | nil => rfl
  | cons h1 h2 h3 ih => simp [ih]
theorem putTs_len (ts : IR) : ∀ {cs : List Ct} {e e' : Sl} {s s' : Src}, putTs W.gl W.calls ts lk cs e s = some (e', s') → rowLen ts = some cs.length := by
  induction ts with
  | nil =>
    intro cs e e' s s' h
    obtain ⟨rfl, _, _⟩ := putTs_nil h
    rfl
  | cons t r _ ih =>
    intro cs e e' s s' h
    obtain ⟨c, cs', e1, s1, rfl, m1, m2⟩ := putTs_cons h
    unfold rowLen
    rw [ih m2]
    rfl
  | _ =>
    intro cs e e' s s' h
    unfold putTs at h
    cases h
def isSub : IR → Bool
  | .tsub _ _ => true
  | _ => false
def allSub : IR → Bool
  | .nil => true
  | .cons t r => isSub t && allSub r
  | _ => false
theorem putSub_frz {t : IR} {c : Ct} {e e' : Sl} {s s' : Src} (ht : isSub t = true) (h : putT W.gl W.calls t lk c e s = some (e', s')) : frz c ≠ none := by
  cases t <;> first
    | cases ht
    | skip
  rename_i i k
  obtain ⟨d, hd, _⟩ := bind_some (show (frz c).bind _ = some (e', s') from h)
  rw [hd]; simp
theorem putTs_frz (ts : IR) : ∀ {cs : List Ct} {e e' : Sl} {s s' : Src}, allSub ts = true → putTs W.gl W.calls ts lk cs e s = some (e', s') → ∀ c ∈ cs, frz c ≠ none := by
  induction ts with
  | nil =>
    intro cs e e' s s' _ h
    obtain ⟨rfl, _, _⟩ := putTs_nil h
    simp
  | cons t r _ ih =>
    intro cs e e' s s' hs h
    have hs' : (isSub t && allSub r) = true := hs
    rw [Bool.and_eq_true] at hs'
    obtain ⟨c, cs', e1, s1, rfl, m1, m2⟩ := putTs_cons h
    intro c' hc'
    rcases List.mem_cons.mp hc' with rfl | hc'
    · exact putSub_frz hs'.1 m1
    · exact ih hs'.2 m2 c' hc'
  | _ =>
    intro cs e e' s s' hs
    cases hs
/-- by a tuple that is taken apart -/
theorem s_parG (g : GX X W N sc fs) {kt k2 : Nat} {pt p2 : Pos} {as : IR} (hp : ts.all plainTg = true) (hz : ts.length ≤ 100) (hl : rowLen ir = some ts.length) (hw : swappedStores [.Tuple ts kt pt] (.Tuple es k2 p2) X.env = pure none)
    (hg : PGs X ts (gPs W X.K lk ir)) (ha : PA X es (tCs W X.K lk as)) : PS X (.Assign [.Tuple ts kt pt] (.Tuple es k2 p2) pos) (tS W X.K lk (.par ir as)) := by
  obtain ⟨z1, z2⟩ := each_len hp X.env
  refine ps_weak (ps_asg (pe_tup ha) (pg_tup g.calm hg rfl z2) (sw_sole rfl _ _ _) hw (by rw [assignEach_cons rfl]; rfl)) fun D σ H h => ?_
  obtain ⟨B, G, LA, e, s, cs, e1, s1, a, h1, kk⟩ := par_mono h
  refine ⟨B, G, LA, e, s, cs, e1, s1, a, h1, fun vs G1 H1 a1 ext1 csok => ?_⟩
  obtain ⟨B2, G2, LA2, e2, s2, cs2, e', s', a2, h3, csok2, k2⟩ := kk vs G1 H1 a1 ext1 csok
  have ln := putTs_len _ h3
  rw [hl] at ln
  have hn : ts.length = vs.length := (Option.some.inj ln).trans (csOk_len csok2)
  exact ⟨by rw [sizeLine_eq]; omega, fun p hp => ⟨p, vs, rfl, .inl (.inl upd_same), by rw [z1, hn], B2, G2, LA2, e2, s2, cs2, e', s', a2.new hp, h3, csok2.grow hp, k2⟩⟩
/-- .. to subscripts -/
theorem s_parD (g : GX X W N sc fs) {kt k2 : Nat} {pt p2 : Pos} {as : IR} (hp : ts.all plainTg = true) (hz : ts.length ≤ 100) (hl : rowLen ir = some ts.length) (hsub : allSub ir = true) (hw : swappedStores [.Tuple ts kt pt] (.Tuple es k2 p2) X.env = pure none)
    (hg : PGs X ts (gDs W X.K lk ir)) (ha : PA X es (tCs W X.K lk as)) : PS X (.Assign [.Tuple ts kt pt] (.Tuple es k2 p2) pos) (tS W X.K lk (.par ir as)) := by
  obtain ⟨z1, z2⟩ := each_len hp X.env
  refine ps_weak (ps_asg (pe_tup ha) (pg_tup g.calm hg rfl z2) (sw_sole rfl _ _ _) hw (by rw [assignEach_cons rfl]; rfl)) fun D σ H h => ?_
  obtain ⟨B, G, LA, e, s, cs, e1, s1, a, h1, kk⟩ := par_mono h
  refine ⟨B, G, LA, e, s, cs, e1, s1, a, h1, fun vs G1 H1 a1 ext1 csok => ?_⟩
  obtain ⟨B2, G2, LA2, e2, s2, cs2, e', s', a2, h3, csok2, k2⟩ := kk vs G1 H1 a1 ext1 csok
  have ln := putTs_len _ h3
  rw [hl] at ln
  have hn : ts.length = vs.length := (Option.some.inj ln).trans (csOk_len csok2)
  refine ⟨by rw [sizeLine_eq]; omega, fun p hp => ⟨p, vs, rfl, .inl (.inl upd_same), by rw [z1, hn], ?_⟩⟩
  obtain ⟨G3, a3, ext3, fz⟩ := (csok2.grow (o := .tup vs) hp).freeze (putTs_frz _ hsub h3) (a2.new hp)
  exact ⟨B2, G3, LA2, e2, s2, cs2, e', s', a3, h3, fz, fun σ' G' H' a' x => k2 σ' G' H' a' (ext3.trans x)⟩
theorem asgs_names {x y : Str} (env : Env) : True := trivial
/-- two local names -/
theorem s_par2 (g : GX X W N sc fs) {kt k2 : Nat} {pt p2 px py : Pos} {as : IR} {j : Nat} {y : Str} (hi : tgB N sc fs i x = true) (hj : tgB N sc fs j y = true) (hij : i ≠ j) (lx : sc.names.lookup x = some .local) (ly : sc.names.lookup y = some .local)
    (hw : swappedStores [.Tuple [.Name x px, .Name y py] kt pt] (.Tuple [a, b] k2 p2) X.env = pure (some [x, y])) (ha : PA X [a, b] (tCs W X.K lk as)) :
    PS X (.Assign [.Tuple [.Name x px, .Name y py] kt pt] (.Tuple [a, b] k2 p2) pos) (tS W X.K lk (.par (.cons (.tname i) (.cons (.tname j) .nil)) as)) := by
  unfold tgB at hi hj
  rw [Bool.and_eq_true] at hi hj
  refine ps_weak (ps_par g.calm (by rw [g.hN]; exact g.nd) (by rw [g.hN]; exact of_decide_eq_true hi.1) (by rw [g.hN]; exact of_decide_eq_true hj.1) hij (by rw [g.hsc]; exact lx) (by rw [g.hsc]; exact ly) ha hw (sw_sole rfl _ _ _)) fun D σ H h => ?_
  obtain ⟨B, G, LA, e, s, cs, e1, s1, a, h1, kk⟩ := par_mono h
  refine ⟨B, G, LA, e, s, cs, e1, s1, a, h1, fun vs G1 H1 a1 ext1 csok => ?_⟩
  obtain ⟨B2, G2, LA2, e2, s2, cs2, e', s', a2, h3, csok2, k2⟩ := kk vs G1 H1 a1 ext1 csok
  obtain ⟨c1, cs3, e3, s3, rfl, m1, m2⟩ := putTs_cons h3
  obtain ⟨c2, cs4, e4, s4, rfl, m3, m4⟩ := putTs_cons m2
  obtain ⟨rfl, rfl, rfl⟩ := putTs_nil m4
  obtain ⟨i1, i2, _, rfl, rfl⟩ := putT_name m1
  obtain ⟨j1, j2, _, rfl, rfl⟩ := putT_name m3
  cases csok2 with
  | @cons _ v _ vs q1 q2 q3 =>
    cases q3 with
    | @cons _ w _ vs q4 q5 q6 =>
      cases q6
      refine ⟨v, w, rfl, k2 _ G2 H1 ?_ Ext.refl⟩
      exact (a2.put q1 i1 i2).put (q4.put i2 a2.len fun o1 o2 z => q2 o1 0 c2 rfl o2 (by rw [z]; rfl)) j1 j2
/-- three -/
theorem s_par3 (g : GX X W N sc fs) {kt k2 : Nat} {pt p2 px py pz : Pos} {as : IR} {j l : Nat} {y z : Str} (hi : tgB N sc fs i x = true) (hj : tgB N sc fs j y = true) (hl : tgB N sc fs l z = true) (hij : i ≠ j) (hil : i ≠ l) (hjl : j ≠ l) (lx : sc.names.lookup x = some .local) (ly : sc.names.lookup y = some .local) (lz : sc.names.lookup z = some .local)
    (hw : swappedStores [.Tuple [.Name x px, .Name y py, .Name z pz] kt pt] (.Tuple [a, b, c] k2 p2) X.env = pure (some [x, y, z])) (ha : PA X [a, b, c] (tCs W X.K lk as)) :
    PS X (.Assign [.Tuple [.Name x px, .Name y py, .Name z pz] kt pt] (.Tuple [a, b, c] k2 p2) pos) (tS W X.K lk (.par (.cons (.tname i) (.cons (.tname j) (.cons (.tname l) .nil))) as)) := by
  unfold tgB at hi hj hl
  rw [Bool.and_eq_true] at hi hj hl
  refine ps_weak (ps_par3 g.calm (by rw [g.hN]; exact g.nd) (by rw [g.hN]; exact of_decide_eq_true hi.1) (by rw [g.hN]; exact of_decide_eq_true hj.1) (by rw [g.hN]; exact of_decide_eq_true hl.1) hij hil hjl (by rw [g.hsc]; exact lx) (by rw [g.hsc]; exact ly) (by rw [g.hsc]; exact lz) ha hw (sw_sole rfl _ _ _)) fun D σ H h => ?_
  obtain ⟨B, G, LA, e, s, cs, e1, s1, a, h1, kk⟩ := par_mono h
  refine ⟨B, G, LA, e, s, cs, e1, s1, a, h1, fun vs G1 H1 a1 ext1 csok => ?_⟩
  obtain ⟨B2, G2, LA2, e2, s2, cs2, e', s', a2, h3, csok2, k2⟩ := kk vs G1 H1 a1 ext1 csok
  obtain ⟨c1, cs3, e3, s3, rfl, m1, m2⟩ := putTs_cons h3
  obtain ⟨c2, cs4, e4, s4, rfl, m3, m4⟩ := putTs_cons m2
  obtain ⟨c3, cs5, e5, s5, rfl, m5, m6⟩ := putTs_cons m4
  obtain ⟨rfl, rfl, rfl⟩ := putTs_nil m6
  obtain ⟨i1, i2, _, rfl, rfl⟩ := putT_name m1
  obtain ⟨j1, j2, _, rfl, rfl⟩ := putT_name m3
  obtain ⟨l1, l2, _, rfl, rfl⟩ := putT_name m5
  cases csok2 with
  | @cons _ v _ vs q1 q2 q3 =>
    have q3' := q3.put i2 a2.len q2
    cases q3' with
    | @cons _ w _ vs q4 q5 q6 =>
      have a3 := a2.put q1 i1 i2
      have q6' := q6.put j2 a3.len q5
      cases q6' with
      | @cons _ u _ vs q7 q8 q9 =>
        cases q9
        exact ⟨v, w, u, rfl, k2 _ G2 H1 ((a3.put q4 j1 j2).put q7 l1 l2) Ext.refl⟩
end
end GW

namespace GW
open PySem PySem.Spec PyProof.Rows L2

section
variable {X : Cx} {W : Wd} {N : List Str} {sc : Scope} {fs fs' : List Str} {lk : List Nat} {pos p apos : Pos} {a b c k : Expr} {ia ib ic ir it ik itg icnd ielt : IR} {es ts ifs : List Expr} {i : Nat} {x : Str} {elt tg iter : Expr} {scope : Scope} {own : List (Str × Nat)}
theorem s_append (g : GX X W N sc fs) {pos' : Pos} (h : nmB N sc i x = true) (hl : (apos.endLine == pos'.line) = true) (ns : notStar a = true) (ha : PE X a (tE W X.K lk ia)) :
    PS X (.Expr (.Call (.Attribute (.Name x p) "append" apos) [a] [] pos') pos) (tS W X.K lk (.mut .append i ia)) := by
  obtain ⟨n1, n2, n3⟩ := g.nm h
  obtain ⟨d1, d2, _⟩ := okName_of n3
  refine ps_weak (ps_expr (pe_bm PySem.F.plainAttrs_list PySem.F.slot_list_append PySem.F.type_list_append mt_append (pe_var n1 (visB_vis n2) d1 d2) (pa_cons ha pa_nil (starEach_one ns _)) rfl (few1 ns _ _) hl (starEach_one ns _) rfl) rfl) fun D σ H ⟨B, G, LA, e, s, f, e', s', a, ev, kk⟩ => ?_
  unfold evS at ev
  split at ev
  · rename_i ds hc
    obtain ⟨⟨cn, e1, s1⟩, h1, h2⟩ := bind_some ev
    obtain ⟨d, h3, h4⟩ := bind_some h2
    obtain ⟨e2, h5, h6⟩ := map_some h4
    cases h6
    obtain ⟨v, ev1, q, xs, rfl, hp, r⟩ := a.slot i _ hc
    refine ⟨.ref q, ev1, Or.inl ⟨rfl, xs, SqL.of hp⟩, B, G, LA, e, s, cn, e1, s', a, h1, fun y G1 H1 a1 ext1 cok => ?_⟩
    obtain ⟨G2, a2, ext2, dq⟩ := a1.freeze cok h3
    unfold mutAt at h5
    split at h5
    · cases h5
    · rename_i hlk
      have hi : i ∉ lk := fun z => hlk (by simpa using z)
      split at h5
      · rename_i ds' hc'
        have h5' : (if decide (ds'.length < sizeLine) then some (e1.set i (some (.l (ds' ++ [d])))) else none) = some e' := h5
        split at h5'
        · rename_i hz
          cases h5'
          obtain ⟨v', ev2, q', xs', rfl, hp', r'⟩ := a2.slot i _ hc'
          rw [ev1] at ev2
          cases ev2
          refine ⟨q, xs', y, rfl, rfl, hp', by rw [dpA_len r']; exact of_decide_eq_true hz, ?_⟩
          exact kk σ G2 _ (a2.change hc' rfl hi ev1 (c' := .l (ds' ++ [d])) ⟨q, _, rfl, upd_same, dpA_app r' (.cons dq .nil)⟩ rfl) (ext1.trans ext2)
        · cases h5'
      · cases h5
  · cases ev
theorem s_aug (g : GX X W N sc fs) {p : Pos} (h : tgB N sc fs i x = true) (ha : PE X a (tE W X.K lk ia)) : PS X (.AugAssign (.Name x p) .Add a pos) (tS W X.K lk (.aug .add i ia)) := by
  unfold tgB at h
  rw [Bool.and_eq_true] at h
  obtain ⟨h1, h2⟩ := g.loc h.2
  have hi : X.N[i]? = some x := by rw [g.hN]; exact of_decide_eq_true h.1
  refine ps_weak (ps_aug (by rw [g.hN]; exact g.nd) hi h1 ha ip_add h2) fun D σ H ⟨B, G, LA, e, s, f, e', s', a, ev, kk⟩ => ?_
  unfold evS at ev
  split at ev
  · cases ev
  · rename_i hlk
    have hik : i ∉ lk := fun z => hlk (by simpa using z)
    split at ev
    · rename_i n hc
      obtain ⟨⟨cn, e1, s1⟩, h1, h2⟩ := bind_some ev
      dsimp only at h2
      obtain ⟨v, ev1, r⟩ := a.slot i _ hc
      cases (show Dq X.K G v (.int n) from r)
      split at h2
      · rename_i m
        cases h2
        refine ⟨_, ev1, B, G, LA, e, s, _, e1, s', a, h1, fun y G1 H1 a1 ext1 cok => ?_⟩
        cases (show Dq X.K G1 y (.int m) from cok.1)
        refine ⟨n, m, rfl, rfl, ?_⟩
        have hl : i < e1.length := by rw [a1.len, ← a.len]; exact at_lt hc
        exact kk _ G1 H1 (a1.put (c := .v (.int (n + m))) (COk.v (.int _)) hik hl) ext1
      · cases h2
    · cases ev
theorem s_setLc (g : GX X W N sc fs) {py spos : Pos} (hx : tgB N sc fs i x = true) (lx : sc.names.lookup x = some .local) (hk : sc.kind = .function) (hl : (py.line == pos.line) = true)
    (hnl : (scope.names.any fun (n, k) => n == x && (k == .local || k == .cell)) = false)
    (ok : blkC N sc scope own = true) (hcs : fs'.all (fun x => scope.names.lookup x == some .cell) = true) (hib : iterB iter = true) (hi : PI X tg iter (iI W X.K lk (isTT itg) it))
    (hg : ∀ X' : Cx, X'.K = X.K → GX X' W N (relS scope sc) fs' → PG X' tg (gB W X'.K (lksOf it ++ lk) itg))
    (ht : ∀ X' : Cx, X'.K = X.K → GX X' W N (relS scope sc) fs' → PTs X' ifs (tT W X'.K (lksOf it ++ lk) icnd))
    (he : ∀ X' : Cx, X'.K = X.K → GX X' W N (relS scope sc) fs' → PE X' elt (tE W X'.K (lksOf it ++ lk) ielt)) :
    PS X (.Assign [.Name x py] (.ListComp elt [⟨tg, iter, ifs, 0⟩] scope pos) spos) (tS W X.K lk (.asg (.tname i) (.comp (own.map (·.2)) it itg icnd ielt))) := by
  unfold tgB at hx
  rw [Bool.and_eq_true] at hx
  have lx' : X.env.scope.names.lookup x = some .local := by rw [g.hsc]; exact lx
  refine ps_weak (ps_setLc (te := tE W X.K (lksOf it ++ lk) ielt) (tt := tT W X.K (lksOf it ++ lk) icnd) (g := gB W X.K (lksOf it ++ lk) itg) g.calm (by rw [g.hN]; exact g.nd) (by rw [g.hN]; exact of_decide_eq_true hx.1) lx' (sw_true (by rw [g.hsc]; exact hk) lx' hl hnl) hi (blkOk_by (by rw [g.hN, g.hsc]; exact ok))
    (fun s H C cl fp => hg (X.blk s H scope (compEnvC scope cl C X.env) fp) rfl (g.blk hcs)) (fun s H C cl fp => ht (X.blk s H scope (compEnvC scope cl C X.env) fp) rfl (g.blk hcs)) (fun s H C cl fp => he (X.blk s H scope (compEnvC scope cl C X.env) fp) rfl (g.blk hcs)) (folded hib _)) fun D σ H h => ?_
  refine comp_mono ?_
  obtain ⟨B, G, LA, e, s, c, e1, s1, a, h1, kk⟩ := asg_mono (t := fun _ _ _ _ => True) h
  refine ⟨B, G, LA, e, s, c, e1, s1, a, h1, fun v G1 H1 a1 ext1 cok => ?_⟩
  obtain ⟨B2, G2, LA2, e2, s2, c2, e3, s3, a2, m1, cok2, k2⟩ := kk v G1 H1 a1 ext1 cok
  obtain ⟨hik, hlt, _, rfl, rfl⟩ := putT_name m1
  exact k2 _ G2 H1 (a2.put cok2 hik hlt) Ext.refl
/-- .. a captured name, or otherwise -/
theorem sw_cell {e : Expr} {y : Str} {q : Pos} {l : Nat} {env : Env} (h : env.scope.names.lookup y = some .cell) : swapsWith e (some (.Name y q)) l env = pure false := by
  have hk : env.kindOf y = some .cell := h
  unfold swapsWith
  cases e <;> first
    | rfl
    | (simp only [hk]; rw [show (some NameKind.cell == some NameKind.local) = false from rfl]; simp)
theorem s_asgC (g : GX X W N sc fs) {py : Pos} (hx : tgB N sc fs i x = true) (lx : sc.names.lookup x = some .cell) (ha : PE X a (tE W X.K lk ia)) : PS X (.Assign [.Name x py] a pos) (tS W X.K lk (.asg (.tname i) ia)) :=
  ps_weak (ps_asg ha (gp_name g hx) (sw_cell (l := pos.line) (by rw [g.hsc]; exact lx)) (st_none (e := a) rfl _) (by rw [assignEach_cons rfl]; rfl)) fun D σ H h => asg_mono (t := fun _ _ _ _ => True) h
end
end GW

namespace GW
open PySem PySem.Spec PyProof.Rows L2

section
variable {X : Cx} {W : Wd} {N : List Str} {sc : Scope} {fs : List Str} {lk : List Nat} {pos p apos dpos : Pos} {k1 v1 k2 v2 y z : Expr} {i1 j1 i2 j2 iy iz : IR}
theorem evDs_cons {a r : IR} {e e' : Sl} {s s' : Src} {ds : List D} (h : evDs W.gl W.calls (.cons a r) lk e s = some (ds, e', s')) :
    ∃ c d e1 s1 ds', evE W.gl W.calls a lk e s = some (c, e1, s1) ∧ frz c = some d ∧ evDs W.gl W.calls r lk e1 s1 = some (ds', e', s') ∧ ds = d :: ds' := by
  obtain ⟨⟨c, e1, s1⟩, h1, h2⟩ := bind_some (show (evE W.gl W.calls a lk e s).bind _ = some (ds, e', s') from h)
  obtain ⟨d, h3, h4⟩ := bind_some h2
  obtain ⟨⟨ds', e2, s2⟩, h5, h6⟩ := map_some h4
  cases h6
  exact ⟨c, d, e1, s1, ds', h1, h3, h5, rfl⟩
theorem disg_form {a b c d e f : D} {r : Ct} (h : disgD [a, b, c, d, e, f] = some r) : ∃ k k' q, flatKey a = some k ∧ flatKey c = some k' ∧ flatKey e = some q ∧ r = .v ((lookK (putKD (putKD [] k b) k' d) q).getD f) := by
  unfold disgD at h
  have h' : (match pairsOf [a, b, c, d], flatKey e with
    | some kvs, some k => if decide (kvs.length ≤ 15) && !kvs.isEmpty then some (Ct.v ((lookK (mergeD kvs) k).getD f)) else none
    | _, _ => none) = some r := h
  cases ha : flatKey a with
  | none => rw [show pairsOf [a, b, c, d] = none by simp [pairsOf, ha]] at h'; cases h'
  | some k =>
    cases hc : flatKey c with
    | none => rw [show pairsOf [a, b, c, d] = none by simp [pairsOf, ha, hc]] at h'; cases h'
    | some k' =>
      rw [show pairsOf [a, b, c, d] = some [(k, b), (k', d)] by simp [pairsOf, ha, hc]] at h'
      cases he : flatKey e with
      | none => rw [he] at h'; cases h'
      | some q =>
        rw [he] at h'
        cases h'
        exact ⟨k, k', q, rfl, rfl, rfl, rfl⟩
theorem few2 {e f : Expr} (h : notStar e = true) (h' : notStar f = true) (cpos : Pos) (env : Env) : ((backTo cpos (starEach [e, f] env)).all (fun x => !x.1) && (backToKw cpos (keywordEach [] env)).all (fun x => x.1.isSome)
      && decide (([e, f] : List Expr).length + ([] : List Keyword).length + (if ([] : List Keyword).isEmpty then 0 else 1) < 30)) = true := by
  rw [starEach_cons h, starEach_cons h']
  rfl
theorem s_disg2 (g : GX X W N sc fs) (ny : notStar y = true) (nz : notStar z = true) (hl : (apos.endLine == pos.line) = true)
    (h1 : PE X k1 (tE W X.K lk i1)) (h2 : PE X v1 (tE W X.K lk j1)) (h3 : PE X k2 (tE W X.K lk i2)) (h4 : PE X v2 (tE W X.K lk j2)) (hy : PE X y (tE W X.K lk iy)) (hz : PE X z (tE W X.K lk iz)) :
    PE X (.Call (.Attribute (.Dict [some k1, some k2] [v1, v2] dpos) "get" apos) [y, z] [] pos) (tE W X.K lk (.disg (.cons i1 (.cons j1 (.cons i2 (.cons j2 (.cons iy (.cons iz .nil)))))))) := by
  have hu := g.units
  have m : M2 X (.Dict [some k1, some k2] [v1, v2] dpos) "get" apos y z pos := ⟨attr_base rfl _ _ _, few2 ny nz _ _, hl, by rw [starEach_cons ny, starEach_cons nz]; rfl⟩
  refine pe_weak (pe_dget2 (by omega) (pe_disp (pps_cons h1 h2 (pps_cons h3 h4 pps_nil)) rfl rfl (by simp) (by show 2 ≤ 15; decide)) hy hz m) fun σ H Q ⟨B, G, LA, e, s, c, e', s', a, ev, kk⟩ => ?_
  obtain ⟨⟨ds, e0, s0⟩, g1, g2⟩ := bind_some (show (evDs W.gl W.calls _ lk e s).bind _ = some (c, e', s') from ev)
  obtain ⟨c', g3, g4⟩ := map_some g2
  cases g4
  obtain ⟨c1, d1, e1, s1, ds1, x1, f1, g11, rfl⟩ := evDs_cons g1
  obtain ⟨c2, d2, e2, s2, ds2, x2, f2, g12, rfl⟩ := evDs_cons g11
  obtain ⟨c3, d3, e3, s3, ds3, x3, f3, g13, rfl⟩ := evDs_cons g12
  obtain ⟨c4, d4, e4, s4, ds4, x4, f4, g14, rfl⟩ := evDs_cons g13
  obtain ⟨c5, d5, e5, s5, ds5, x5, f5, g15, rfl⟩ := evDs_cons g14
  obtain ⟨c6, d6, e6, s6, ds6, x6, f6, g16, rfl⟩ := evDs_cons g15
  cases g16
  obtain ⟨ka, kb, kq, fa, fb, fq, rfl⟩ := disg_form g3
  intro pd hpd
  have bD := a.bnone hpd
  have gD := a.gnone hpd
  obtain ⟨m1, m2⟩ := a.ned hpd
  have hlk : ∀ i ∈ lk, LA i ≠ pd := fun i hi z => a.lkb i hi (z ▸ bD)
  refine ⟨_, G, LA, e, s, c1, e1, s1, a.enter hpd, x1, fun u1 G1 H1 a1 y1 ok1 => ?_⟩
  obtain ⟨G1, a1, w1, q1⟩ := a1.freeze ok1 f1
  refine ⟨_, G1, LA, e1, s1, c2, e2, s2, a1, x2, fun u2 G2 H2 a2 y2 ok2 => ?_⟩
  obtain ⟨G2, a2, w2, q2⟩ := a2.freeze ok2 f2
  refine ⟨_, G2, LA, e2, s2, c3, e3, s3, a2, x3, fun u3 G3 H3 a3 y3 ok3 => ?_⟩
  obtain ⟨G3, a3, w3, q3⟩ := a3.freeze ok3 f3
  refine ⟨_, G3, LA, e3, s3, c4, e4, s4, a3, x4, fun u4 G4 H4 a4 y4 ok4 => ?_⟩
  obtain ⟨G4, a4, w4, q4⟩ := a4.freeze ok4 f4
  have z12 : Same G1 G2 := y2.1.trans w2.1
  have z23 : Same G2 G3 := y3.1.trans w3.1
  have z34 : Same G3 G4 := y4.1.trans w4.1
  have E4 := ((((((y1.trans w1).trans (y2.trans w2)).trans (y3.trans w3)).trans (y4.trans w4))))
  have gD4 : G4 pd = none := E4.gnone gD
  have eu1 := flatKey_v (K := X.K) (G := G1) (H := H1) (Or.inl q1) fa
  have eu3 := flatKey_v (K := X.K) (G := G3) (H := H3) (Or.inl q3) fb
  subst eu1 eu3
  refine ⟨a4.frm pd _ upd_same m1 m2, [(ka, u2), (kb, u4)], rfl, by show 2 ≤ 15; decide, pd, rfl, Or.inl ⟨_, Or.inl upd_same⟩, ?_⟩
  have a5 := a4.step (o' := .dK (mergeK [] [(ka, u2), (kb, u4)])) m1 m2 gD4 hlk
  refine ⟨_, G4, LA, e4, s4, c5, e5, s5, a5, x5, fun u5 G5 H5 a6 y5 ok5 => ?_⟩
  obtain ⟨G5, a6, w5, q5⟩ := a6.freeze ok5 f5
  refine ⟨_, G5, LA, e5, s5, c6, _, _, a6, x6, fun u6 G6 H6 a7 y6 ok6 => ?_⟩
  obtain ⟨G6, a7, w6, q6⟩ := a7.freeze ok6 f6
  have z46 : Same G4 G6 := (y5.1.trans w5.1).trans (y6.1.trans w6.1)
  have eu5 := flatKey_v (K := X.K) (G := G5) (H := H5) (Or.inl q5) fq
  subst eu5
  have hp6 := a7.frm pd _ upd_same m1 m2
  have kv : KvOk X.K G6 (mergeK [] [(ka, u2), (kb, u4)]) (putKD (putKD [] ka d2) kb d4) :=
    kv_put (kv_put (Paired.nil : KvOk X.K G6 ([] : List (Ky × V)) []) ka (dp_same ((z23.trans z34).trans z46) q2)) kb (dp_same z46 q4)
  refine ⟨valV (mergeK [] [(ka, u2), (kb, u4)]) kq, DGet.k hp6, ?_⟩
  have E6 : Ext (upd B pd (.dK [])) G G6 := by
    refine E4.trans ⟨z46, fun q hq => ?_⟩
    rcases (((y5.trans w5).trans (y6.trans w6)).2 q hq) with z | z
    · exact Or.inl z
    · refine Or.inr ?_
      by_cases w : q = pd
      · rw [w, upd_same] at z; cases z
      · rw [upd_ne w] at z ⊢; exact z
  refine kk _ G6 H6 (a7.leave bD hlk) (E6.sub (same_base bD)) (COk.v ?_)
  rcases kv_look kv kq with ⟨n1, n2⟩ | ⟨w, d', n1, n2, rw'⟩
  · rw [n1, n2]; exact q6
  · rw [n1, n2]; exact rw'
end
end GW

namespace GW
open PySem PySem.Spec PyProof.Rows L2

section
variable {K : PySem.W.Frag} {A : Sa} {G H : Hp}
theorem lentIx_ge : ∀ {gs : List Ga} {n i : Nat}, i ∈ lentIx gs n → n ≤ i
  | [], _, _, h => by simp [lentIx] at h
  | g :: r, n, i, h => by
    unfold lentIx at h
    split at h
    · rcases List.mem_cons.mp h with rfl | h
      · exact Nat.le_refl _
      · exact Nat.le_of_succ_le (lentIx_ge h)
    · exact Nat.le_of_succ_le (lentIx_ge h)
theorem lentIx_mem : ∀ {gs : List Ga} {n i : Nat} {g : Ga}, gs[i]? = some g → (n + i ∈ lentIx gs n ↔ lent g = true)
  | [], _, _, _, h => by simp at h
  | g0 :: r, n, 0, g, h => by
    simp at h
    subst h
    unfold lentIx
    rw [Nat.add_zero]
    constructor
    · intro h
      split at h
      · assumption
      · exact absurd (lentIx_ge h) (by omega)
    · intro h
      rw [if_pos h]; simp
  | g0 :: r, n, i + 1, g, h => by
    have ih := lentIx_mem (gs := r) (n := n + 1) (i := i) (g := g) (by simpa using h)
    unfold lentIx
    have e : n + (i + 1) = n + 1 + i := by omega
    rw [e]
    split
    · rw [List.mem_cons, ih]
      constructor
      · rintro (z | z)
        · omega
        · exact z
      · exact Or.inr
    · exact ih
theorem lentIx_at : ∀ {gs : List Ga} {n i : Nat}, i ∈ lentIx gs n → ∃ g, gs[i - n]? = some g ∧ lent g = true
  | [], _, _, h => by simp [lentIx] at h
  | g :: r, n, i, h => by
    have hn := lentIx_ge h
    unfold lentIx at h
    by_cases e : i = n
    · subst e
      split at h
      · exact ⟨g, by simp, by assumption⟩
      · exact absurd (lentIx_ge h) (by omega)
    · have h' : i ∈ lentIx r (n + 1) := by
        split at h
        · exact (List.mem_cons.mp h).resolve_left e
        · exact h
      obtain ⟨g', h1, h2⟩ := lentIx_at h'
      refine ⟨g', ?_, h2⟩
      have e2 : i - n = i - (n + 1) + 1 := by have := lentIx_ge h'; omega
      rw [e2]; simpa using h1
theorem paired_at {α β : Type} {R : α → β → Prop} {xs : List α} {ys : List β} (h : Paired R xs ys) : ∀ {i : Nat} {x : α}, xs[i]? = some x → ∃ y, ys[i]? = some y ∧ R x y := by
  induction h with
  | nil => intro i x h; simp at h
  | cons h t ih =>
    intro i x hx
    cases i with
    | zero =>
      simp at hx
      subst hx
      exact ⟨_, rfl, h⟩
    | succ i => simpa using ih (by simpa using hx)
theorem GaOk.vc {g : Ga} {v : V} (h : GaOk K A G H g v) : ∃ c, slotG g = some c ∧ VC K A G H c v ∧ isOwn c = lent g := by
  cases g with
  | v d => exact ⟨_, rfl, h, rfl⟩
  | l ds => obtain ⟨p, xs, e, q, r, _⟩ := h; exact ⟨_, rfl, ⟨p, xs, e, q, r⟩, rfl⟩
  | k ds => obtain ⟨p, xs, e, q, r, _⟩ := h; exact ⟨_, rfl, ⟨p, xs, e, q, r⟩, rfl⟩
  | t ds => obtain ⟨p, xs, e, q, r, _⟩ := h; exact ⟨_, rfl, ⟨p, xs, e, q, r⟩, rfl⟩
  | s => exact ⟨_, rfl, h, rfl⟩
theorem GaOk.ned {g : Ga} {v : V} (h : GaOk K A G H g v) (hl : lent g = true) : ∃ p, v = .ref p ∧ H p ≠ none ∧ p ≠ A.d ∧ p ≠ A.c := by
  cases g with
  | v d => cases hl
  | l ds => obtain ⟨p, xs, e, q, r, m1, m2⟩ := h; exact ⟨p, e, some_of q, m1, m2⟩
  | k ds => obtain ⟨p, xs, e, q, r, m1, m2⟩ := h; exact ⟨p, e, some_of q, m1, m2⟩
  | t ds => obtain ⟨p, xs, e, q, r, m1, m2⟩ := h; exact ⟨p, e, some_of q, m1, m2⟩
  | s => cases hl
/-- a block's start -/
def argAt (vs : List V) (i : Nat) : Addr := match vs[i]? with
  | some (.ref p) => p
  | _ => 0
theorem aok_start {gs : List Ga} {vs : List V} {s : Src} {N : List Str} (hs : Same G H) (so : SrcOk A H s) (nd : G A.d = none) (nc : G A.c = none) (pr : Paired (GaOk K A G H) gs vs) (hl : gs.length ≤ N.length) :
    AOk K A H G H (lentIx gs 0) (argAt vs) (L2.start N vs) (startS N.length gs) s := by
  have ln : gs.length = vs.length := Paired.length pr
  have at_s : ∀ {i c}, at_ (startS N.length gs) i = some c → ∃ g, gs[i]? = some g ∧ slotG g = some c := fun {i c} h => by
    unfold at_ startS at h
    by_cases hi : i < gs.length
    · rw [List.getElem?_append_left (by simpa using hi), List.getElem?_map, List.getElem?_eq_getElem hi] at h
      exact ⟨gs[i], List.getElem?_eq_getElem hi, h⟩
    · rw [List.getElem?_append_right (by simpa using hi)] at h
      rw [List.getElem?_replicate] at h
      split at h <;> cases h
  have st : ∀ {i v}, vs[i]? = some v → (L2.start N vs)[i]? = some (some v) := fun {i v} h => by
    unfold L2.start
    have hi := (List.getElem?_eq_some_iff.mp h).1
    rw [List.getElem?_append_left (by simpa using hi), List.getElem?_map, h]
    rfl
  have one : ∀ {i c}, at_ (startS N.length gs) i = some c → ∃ g v, gs[i]? = some g ∧ vs[i]? = some v ∧ GaOk K A G H g v ∧ VC K A G H c v ∧ isOwn c = lent g := fun {i c} h => by
    obtain ⟨g, h1, h2⟩ := at_s h
    obtain ⟨v, h3, h4⟩ := paired_at pr h1
    obtain ⟨c', h5, h6, h7⟩ := h4.vc
    rw [h2] at h5
    cases h5
    exact ⟨g, v, h1, h3, h4, h6, h7⟩
  have lk : ∀ {i c}, at_ (startS N.length gs) i = some c → isOwn c = true → i ∈ lentIx gs 0 := fun {i c} h ow => by
    obtain ⟨g, v, h1, h3, h4, h6, h7⟩ := one h
    have := (lentIx_mem (n := 0) h1).mpr (by rw [← h7]; exact ow)
    rwa [Nat.zero_add] at this
  refine { sub := hs, frm := fun _ _ h _ _ => h, src := so, ngd := nd, ngc := nc, len := ?_, slot := fun i c h => ?_, own := fun i c p h ow e1 => ?_, lkb := fun i hi => ?_, dis := fun i j c c' p h h' o o' n n' r r' => absurd (lk h o) n }
  · unfold startS L2.start
    simp [ln]
  · obtain ⟨g, v, h1, h3, h4, h6, h7⟩ := one h
    exact ⟨v, st h3, h6⟩
  · obtain ⟨g, v, h1, h3, h4, h6, h7⟩ := one h
    rw [st h3] at e1
    cases e1
    obtain ⟨q, e2, hq, m1, m2⟩ := h4.ned (by rw [← h7]; exact ow)
    cases e2
    refine ⟨m1, m2, fun _ => ⟨?_, hq⟩, fun hi => absurd (lk h ow) hi⟩
    unfold argAt
    rw [h3]
  · obtain ⟨g, h1, h2⟩ := lentIx_at hi
    rw [Nat.sub_zero] at h1
    obtain ⟨v, h3, h4⟩ := paired_at pr h1
    obtain ⟨q, rfl, hq, m1, m2⟩ := h4.ned h2
    show H (argAt vs i) ≠ none
    unfold argAt
    rw [h3]
    exact hq
end

/-- all defs below keep their promises -/
def DefsOk (P : Program) (w : World) (K : PySem.W.Frag) (mg : Str → Option Value) (base : Heap) (name : Nat → Option Str) (k : Nat) (calls : Nat → List Ga → Src → Option (Ct × Src)) : Prop :=
  ∀ (A : Sa) (f : Nat) (x : Str), name f = some x → ∃ fa fd ps, mg x = some (.ref fa) ∧ PySem.W.keepIn K (.ref fa) = true ∧ Binds K fd ps [] ∧ FnG P w K mg base k fa fd ps (spG K A calls f)
abbrev bltNames : List Str := ["range", "len", "tuple", "list", "int", "repr", "abs", "min", "max", "enumerate"]
section
variable {P : Program} {w : World} {K : PySem.W.Frag} {mg : Str → Option Value} {base : Heap} {name : Nat → Option Str} {gl : Nat → Option D} {calls : Nat → List Ga → Src → Option (Ct × Src)}
/-- a def by its block -/
theorem fnG_ir {x qual : Str} {st : Stmt} {fa : Addr} {fd : FuncData} {N ps fs : List Str} {k n f : Nat} {d : Fn} {A : Sa} {pick : Src → Int → Option (Int × Src)} {fns : Nat → Option Fn}
    (F : Fun K x qual st fa fd) (S : FnScope N ps (defScope st)) (hd : fns f = some d) (hf : f ≠ 0) (hns : d.ns = N.length) (hnp : d.np = ps.length)
    (hblt : ∀ x ∈ bltNames, mg x = none) (D : DefsOk P w K mg base name k (callF gl pick fns n))
    (body : ∀ (X : Cx) (W : Wd) (lk : List Nat), W.gl = gl → W.calls = callF gl pick fns n → W.name = name → GX X W N (defScope st) fs → PSs X (defBody st) (tSs W X.K lk d.body)) :
    FnG P w K mg base (k + 1) fa fd ps (spG K A (callF gl pick fns (n + 1)) f) := by
  have key : ∀ {gs : List Ga} {s : Src} {c : Ct} {s' : Src}, callF gl pick fns (n + 1) f gs s = some (c, s') → gs.length = d.np ∧ gs.length ≤ d.ns ∧ outC (evSs gl (callF gl pick fns n) d.body (lentIx gs 0) (startS d.ns gs) s) = some (c, s') := fun {gs s c s'} h => by
    have h' : ((fns f).bind fun d => if d.np = gs.length && decide (gs.length ≤ d.ns) then outC (evSs gl (callF gl pick fns n) d.body (lentIx gs 0) (startS d.ns gs) s) else none) = some (c, s') := by
      cases f with
      | zero => exact absurd rfl hf
      | succ f => exact h
    rw [hd] at h'
    have h'' : (if d.np = gs.length && decide (gs.length ≤ d.ns) then outC (evSs gl (callF gl pick fns n) d.body (lentIx gs 0) (startS d.ns gs) s) else none) = some (c, s') := h'
    split at h''
    · rename_i hc
      rw [Bool.and_eq_true, decide_eq_true_eq, decide_eq_true_eq] at hc
      exact ⟨hc.1.symm, hc.2, h''⟩
    · cases h''
  refine fnG_mk F S (fun vs H Q E h => ?_) fun cdv Ar outer s0 H vs Q E hgu hr h => ?_
  · obtain ⟨G, gs, s, c, s', hs, so, nd, nc, pr, hc, _⟩ := h
    rw [← Paired.length pr, (key hc).1, hnp]
  · obtain ⟨G, gs, s, c, s', hs, so, nd, nc, pr, hc, kk⟩ := h
    obtain ⟨h1, h2, h3⟩ := key hc
    refine ⟨_, body _ { A := A, gl := gl, calls := callF gl pick fns n, name := name, k := k } (lentIx gs 0) rfl rfl rfl
      { hN := rfl, hsc := rfl, nd := S.nd, calm := rfl, gu := hgu, room := hr, xe := rfl, fn := fun _ _ => rfl, blt := hblt, defs := fun f x h => D A f x h }, ?_⟩
    rw [hns] at h3 h2
    have a := aok_start (N := N) hs so nd nc pr h2
    cases ev : evSs gl (callF gl pick fns n) d.body (lentIx gs 0) (startS N.length gs) s with
    | none => rw [ev] at h3; cases h3
    | some q =>
      obtain ⟨fl, e', s''⟩ := q
      rw [ev] at h3
      refine ⟨H, G, argAt vs, _, s, fl, e', s'', a, ev, ?_⟩
      cases fl with
      | nx =>
        cases h3
        exact fun σ' G' H' a' ext => kk .non G' H' a'.sub ext a'.frm a'.src a'.ngd a'.ngc ⟨.non, fun z => by cases z⟩
      | bk => cases h3
      | ct => cases h3
      | rt c0 =>
        have e : c0 = c ∧ s'' = s' := by
          cases c0 <;> cases h3 <;> exact ⟨rfl, rfl⟩
        obtain ⟨rfl, rfl⟩ := e
        exact fun v σ' G' H' a' ext cok => kk v G' H' a'.sub ext a'.frm a'.src a'.ngd a'.ngc ⟨cok.1, fun ow => by
          obtain ⟨p, e1, e2, e3, e4, e5, _⟩ := cok.2 ow
          exact ⟨p, e1, e2, e3, e4, e5⟩⟩
end
end GW

namespace GW
open PySem PySem.Spec PyProof.Rows L2

section
variable {K : PySem.W.Frag} {A : Sa} {B G H H' : Hp} {lk : List Nat} {LA : Nat → Addr} {σ : L2.St} {e : Sl} {s s' : Src}
/-- the source moves on -/
theorem AOk.moved (a : AOk K A B G H lk LA σ e s) (h : ∀ b, b ≠ A.d → b ≠ A.c → H' b = H b) (so : SrcOk A H' s') : AOk K A B G H' lk LA σ e s' := by
  refine { sub := fun b u q => ?_, frm := fun b u q m1 m2 => ?_, src := so, ngd := a.ngd, ngc := a.ngc, len := a.len, slot := fun i c hc => ?_, own := a.own, lkb := a.lkb, dis := a.dis }
  · have m1 : b ≠ A.d := fun z => by rw [z, a.ngd] at q; cases q
    have m2 : b ≠ A.c := fun z => by rw [z, a.ngc] at q; cases q
    rw [h b m1 m2]; exact a.sub b u q
  · rw [h b m1 m2]; exact a.frm b u q m1 m2
  · obtain ⟨v, e1, r⟩ := a.slot i c hc
    refine ⟨v, e1, r.to (Same.refl G) fun ow p o ev hp => ?_⟩
    subst ev
    obtain ⟨m1, m2, _⟩ := a.own i c p hc ow e1
    rw [h p m1 m2]; exact hp
def fdK : Fd → Str
  | .left => "left"
  | .mixed => "mixed"
  | .turn => "turn"
theorem src_get (A : Sa) (s : Src) (k : Fd) : valV (srcKvs A s) (.inr (fdK k)) = some (.int (s.get k)) := by cases k <;> rfl
theorem src_cells (A : Sa) (s : Src) : valV (srcKvs A s) (.inr "cells") = some (.ref A.c) := rfl
theorem src_put (A : Sa) (s : Src) (k : Fd) (n : Int) : putK (srcKvs A s) (.inr (fdK k)) (.int n) = srcKvs A (s.put k n) := by cases k <;> rfl
theorem dc_ne (so : SrcOk A H s) : A.d ≠ A.c := fun z => by
  have h1 := so.1
  rw [z, so.2] at h1
  cases h1
end
section
variable {X : Cx} {W : Wd} {N : List Str} {sc : Scope} {fs : List Str} {lk : List Nat} {pos p apos : Pos} {a : Expr} {ia : IR} {i j : Nat} {x : Str} {p2 : Pos}
theorem nosl_str {y : Str} : NoSl (.Constant (.str y) j p2) := fun _ _ => rfl
theorem fld_mono {k : Fd} {σ : L2.St} {H : Hp} {Q : VK} (h : tE W X.K lk (.fld i k) σ H Q) : tDGet (tVar i) (tC (.str (fdK k))) σ H Q := by
  obtain ⟨B, G, LA, e, s, c, e', s', a, ev, kk⟩ := h
  unfold evE at ev
  split at ev
  · rename_i hc
    cases ev
    obtain ⟨v, e1, r⟩ := a.slot i _ hc
    cases (show v = .ref W.A.d from r)
    refine ⟨.ref W.A.d, e1, W.A.d, .int (s.get k), rfl, ?_, kk _ G H a Ext.refl (COk.v (.int _))⟩
    rw [← src_get W.A s k]
    exact DGet.k (k := .inr (fdK k)) a.src.1
  · cases ev
theorem s_fld (g : GX X W N sc fs) {k : Fd} {y : Str} (hx : nmB N sc i x = true) (hy : y = fdK k) : PE X (.Subscript (.Name x p) (.Constant (.str y) j p2) pos) (tE W X.K lk (.fld i k)) := by
  obtain ⟨n1, n2, n3⟩ := g.nm hx
  obtain ⟨d1, d2, _⟩ := okName_of n3
  have hu := g.units
  subst hy
  exact pe_weak (pe_dget (by omega) (pe_var n1 (visB_vis n2) d1 d2) pe_str nosl_str) fun σ H Q h => fld_mono h
theorem at_src {B G H : Hp} {LA : Nat → Addr} {σ : L2.St} {e : Sl} {s : Src} (a : AOk X.K W.A B G H lk LA σ e s) (hc : at_ e i = some .s) : σ[i]? = some (some (.ref W.A.d)) := by
  obtain ⟨v, e1, r⟩ := a.slot i _ hc
  cases (show v = .ref W.A.d from r)
  exact e1
theorem s_clen (g : GX X W N sc fs) {q : Pos} {pos' : Pos} (hx : nmB N sc i x = true) (hg : glB sc "len" = true) :
    PE X (.Call (.Name "len" q) [.Subscript (.Name x p) (.Constant (.str "cells") j p2) pos'] [] pos) (tE W X.K lk (.clen i)) := by
  obtain ⟨n1, n2, n3⟩ := g.nm hx
  obtain ⟨d1, d2, _⟩ := okName_of n3
  have hu := g.units
  refine pe_weak (pe_callB call_len_seq (g.gl hg).1 (g.blt "len" (by simp)) boot_len (pa_cons (pe_dget (by omega) (pe_var n1 (visB_vis n2) d1 d2) pe_str nosl_str) pa_nil (starEach_one rfl _)) (g.gl hg).2.2 (g.gl hg).2.1 (starEach_one rfl _) rfl) fun σ H Q ⟨B, G, LA, e, s, c, e', s', a, ev, kk⟩ => ?_
  unfold evE at ev
  split at ev
  · rename_i hc
    cases ev
    refine ⟨.ref W.A.d, at_src a hc, W.A.d, .ref W.A.c, rfl, ?_, ?_⟩
    · rw [← src_cells W.A s]
      exact DGet.k (k := .inr "cells") a.src.1
    · refine ⟨W.A.c, _, rfl, .inl (SqL.of a.src.2), ?_⟩
      rw [List.length_map]
      exact kk _ G H a Ext.refl (COk.v (.int _))
  · cases ev
theorem s_cpop (g : GX X W N sc fs) {pos' : Pos} (hx : nmB N sc i x = true) (hl : (apos.endLine == pos.line) = true) :
    PE X (.Call (.Attribute (.Subscript (.Name x p) (.Constant (.str "cells") j p2) pos') "pop" apos) [] [] pos) (tE W X.K lk (.cpop i)) := by
  obtain ⟨n1, n2, n3⟩ := g.nm hx
  obtain ⟨d1, d2, _⟩ := okName_of n3
  have hu := g.units
  refine pe_weak (pe_bm0 PySem.F.plainAttrs_list PySem.F.slot_list_pop PySem.F.type_list_pop mt_pop (pe_dget (by omega) (pe_var n1 (visB_vis n2) d1 d2) pe_str nosl_str) rfl hl) fun σ H Q ⟨B, G, LA, e, s, c, e', s', a, ev, kk⟩ => ?_
  unfold evE at ev
  split at ev
  · rename_i hc
    obtain ⟨z, hz, h3⟩ := map_some ev
    cases h3
    refine ⟨.ref W.A.d, at_src a hc, W.A.d, .ref W.A.c, rfl, ?_, ?_⟩
    · rw [← src_cells W.A s]
      exact DGet.k (k := .inr "cells") a.src.1
    · refine ⟨Or.inl ⟨rfl, _, SqL.of a.src.2⟩, W.A.c, _, .int z, rfl, rfl, a.src.2, ?_, ?_⟩
      · rw [List.length_map, List.getElem?_map, hz]; rfl
      · have ne := dc_ne a.src
        refine kk (.int z) G _ (a.moved (fun b m1 m2 => upd_ne m2) ⟨?_, ?_⟩) Ext.refl (COk.v (.int _))
        · rw [upd_ne ne]; exact a.src.1
        · rw [upd_same, List.map_dropLast]
  · cases ev
theorem s_sfld (g : GX X W N sc fs) {k : Fd} {y : Str} {p3 : Pos} (hx : nmB N sc i x = true) (hy : y = fdK k) (nc : notComp a = true) (ha : PE X a (tE W X.K lk ia)) :
    PS X (.Assign [.Subscript (.Name x p) (.Constant (.str y) j p2) p3] a pos) (tS W X.K lk (.sfld i k ia)) := by
  obtain ⟨n1, n2, n3⟩ := g.nm hx
  obtain ⟨d1, d2, _⟩ := okName_of n3
  have hu := g.units
  subst hy
  refine ps_weak (ps_dput (by omega) (pe_var n1 (visB_vis n2) d1 d2) pe_str ha (sw_false nc _ _ _)) fun D σ H ⟨B, G, LA, e, s, f, e', s', a, ev, kk⟩ => ?_
  obtain ⟨⟨c, e1, s1⟩, h1, h2⟩ := bind_some (show (evE W.gl W.calls ia lk e s).bind _ = some (f, e', s') from ev)
  dsimp only at h2
  split at h2
  · rename_i n hc
    cases h2
    refine ⟨B, G, LA, e, s, _, e', s1, a, h1, fun v G1 H1 a1 ext1 cok => ?_⟩
    cases (show Dq X.K G1 v (.int n) from cok.1)
    refine ⟨.ref W.A.d, at_src a1 hc, W.A.d, _, rfl, DPut.k (k := .inr (fdK k)) a1.src.1 (by show 4 < sizeLine; rw [sizeLine_eq]; decide), ?_⟩
    have ne := dc_ne a1.src
    refine kk σ G1 _ (a1.moved (fun b m1 m2 => upd_ne m1) ⟨?_, ?_⟩) ext1
    · rw [upd_same, src_put]
    · rw [upd_ne (Ne.symm ne), a1.src.2]
      cases k <;> rfl
  · cases h2
end
end GW

namespace GW
open PySem PySem.Spec PyProof.Rows L2

section
variable {X : Cx} {W : Wd} {N : List Str} {sc : Scope} {fs : List Str} {scope : Scope}
def tSrc (K : PySem.W.Frag) : TS := fun D σ H => ∃ (a : Addr) (ns : List Int), σ = [some (.ref a), none, none] ∧ SqL K H a (ns.map V.int) ∧ ns.length ≤ 63 ∧
  ∀ mx H' A, Same H H' → H A.d = none → H A.c = none → SrcOk A H' ⟨(ns.map fun i => if i < 0 then -i else i).reverse, 1, mx, 0⟩ → D.rt (.ref A.d) H'
def tMix (te : TE) : TE := te
variable {p1 p2 p3 p4 p5 p6 p7 p8 p9 p10 p11 p12 p13 p14 p15 p16 p17 p18 p19 p20 p21 p22 p23 p24 p25 p26 p27 p28 p29 p30 p31 p32 p33 p34 p35 p36 p37 p38 p39 p40 : Pos} {j1 j2 j3 j4 j5 j6 j7 j8 j9 j10 j11 j12 j13 j14 : Nat}
theorem one_name (g : GX X W N sc fs) {i : Nat} {x : Str} {p : Pos} (h : nmB N sc i x = true) : PE X (.Name x p) (tVar i) := by
  obtain ⟨n1, n2, n3⟩ := g.nm h
  obtain ⟨d1, d2, _⟩ := okName_of n3
  exact pe_var n1 (visB_vis n2) d1 d2
theorem src_body (g : GX X W N sc fs) (h0 : nmB N sc 0 "script" = true) (h1 : nmB N sc 1 "mixed" = true) (h2 : nmB N sc 2 "cell" = true) (l1 : tgB N sc fs 1 "mixed" = true) (l2 : tgB N sc fs 2 "cell" = true) (gi : glB sc "int" = true)
    (ok : blkC N sc scope [("cell", 2)] = true) (gb : glB (relS scope sc) "abs" = true) (c1 : nmB N (relS scope sc) 2 "cell" = true) (c2 : tgB N (relS scope sc) [] 2 "cell" = true) :
    PSs X [.Assign [.Name "mixed" p1] (.Constant (.int 11) j1 p2) p3,
      .For (.Name "cell" p4) (.Name "script" p5) [.Assign [.Name "mixed" p6] (.BinOp (.Call (.Name "int" p7) [.BinOp (.BinOp (.BinOp (.Name "mixed" p8) .Mult (.Constant (.int 69069) j2 p9) p10) .Add (.BinOp (.Name "cell" p11) .Mult (.Constant (.int 31) j3 p12) p13) p14) .Add (.Constant (.int 5) j4 p15) p16] [] p17) .Mod (.Constant (.int 2147483629) j5 p18) p19) p20] [] p21,
      .Return (some (.Dict [some (.Constant (.str "cells") j6 p22), some (.Constant (.str "left") j7 p23), some (.Constant (.str "mixed") j8 p24), some (.Constant (.str "turn") j9 p25)]
        [.Subscript (.ListComp (.Call (.Name "abs" p26) [.Name "cell" p27] [] p28) [⟨.Name "cell" p29, .Name "script" p30, [], 0⟩] scope p31) (.Slice none none (some (.UnaryOp .USub (.Constant (.int 1) j10 p32) p33)) p34) p35,
         .Constant (.int 1) j11 p36, .Name "mixed" p37, .Constant (.int 0) j12 p38] p39)) p40] (tSrc X.K) := by
  unfold tgB at l1 l2
  rw [Bool.and_eq_true] at l1 l2
  obtain ⟨m1, m2⟩ := g.loc l1.2
  obtain ⟨m3, m4⟩ := g.loc l2.2
  have hN : X.N.Nodup := by rw [g.hN]; exact g.nd
  have i1 : X.N[1]? = some ("mixed" : Str) := by rw [g.hN]; exact of_decide_eq_true l1.1
  have i2 : X.N[2]? = some ("cell" : Str) := by rw [g.hN]; exact of_decide_eq_true l2.1
  have int1 : ∀ {e : Expr} {te : TE} {p q : Pos}, notStar e = true → PE X e te → PE X (.Call (.Name "int" p) [e] [] q) _ := fun ns h => pe_callTy call_int1 (g.gl gi).1 (g.blt "int" (by simp)) boot_int (pa_cons h pa_nil (starEach_one ns _)) (g.gl gi).2.2 (g.gl gi).2.1 (starEach_one ns _) rfl
  have cmp : PE X (.ListComp (.Call (.Name "abs" p26) [.Name "cell" p27] [] p28) [⟨.Name "cell" p29, .Name "script" p30, [], 0⟩] scope p31) _ :=
    pe_lc g.calm hN (pi_list (one_name g h0)) (blkOk_by (by rw [g.hN, g.hsc]; exact ok)) (g := gName 2) (tt := tYes) (te := tCB (fun xs H Q => ∃ i, xs = [.int i] ∧ Q (.int (if i < 0 then -i else i)) H) (tCons (tVar 2) tNil))
      (fun s H C cl fp => by
        have g' : GX (X.blk s H scope (compEnvC scope cl C X.env) fp) W N (relS scope sc) [] := g.blk rfl
        unfold tgB at c2
        rw [Bool.and_eq_true] at c2
        obtain ⟨y1, y2⟩ := g'.loc c2.2
        exact pg_name hN i2 y1 y2)
      (fun s H C cl fp => pts_nil)
      (fun s H C cl fp => by
        have g' : GX (X.blk s H scope (compEnvC scope cl C X.env) fp) W N (relS scope sc) [] := g.blk rfl
        exact pe_callB call_abs (g'.gl gb).1 (g'.blt "abs" (by simp)) boot_abs (pa_cons (one_name g' c1) pa_nil (starEach_one rfl _)) (g'.gl gb).2.2 (g'.gl gb).2.1 (starEach_one rfl _) rfl)
      (folded rfl _)
  refine pss_weak (pss_cons (ps_set hN i1 m1 pe_int rfl m2) (pss_cons (ps_for g.passes g.calm (pi_list (one_name g h0)) (pg_name hN i2 m3 m4)
    (pss_one (ps_set hN i1 m1 (pe_op op_mod (int1 rfl (pe_op op_add (pe_op op_add (pe_op op_mul (one_name g h1) pe_int) (pe_op op_mul (one_name g h2) pe_int)) pe_int)) pe_int) rfl m2)) (folded rfl _))
    (pss_one (ps_ret (pe_disp (pps_cons pe_str (pe_revL cmp) (pps_cons pe_str pe_int (pps_cons pe_str (one_name g h1) (pps_cons pe_str pe_int pps_nil)))) rfl rfl (by simp) (by show 4 ≤ 15; decide)))))) fun D σ H h => ?_
  obtain ⟨a, ns, rfl, hS, hl, k⟩ := h
  -- mixed = 11; for cell in script
  refine ⟨.ref a, rfl, a, rfl, ⟨_, hS⟩, ?_⟩
  refine for_it (walk_list (K := X.K) (a := a) (xs := ns.map V.int)) (fun j σ H' => ∃ m c, σ = [some (.ref a), some (.int m), c] ∧ H' = H) ⟨11, none, rfl, rfl⟩ (fun j σ H' _ ⟨_, _, _, e⟩ => e ▸ hS) (fun j x σ H1 H2 hj ⟨m, c, es, eh⟩ y => ?_) (fun σ H' ⟨m, c, es, eh⟩ => ?_)
  · subst es eh
    obtain ⟨y1, y2⟩ := y
    subst y1
    rw [List.getElem?_map] at y2
    obtain ⟨n, hn, rfl⟩ := map_some y2
    refine ⟨.int m, rfl, m, 69069, rfl, rfl, ?_, .int n, rfl, n, 31, rfl, rfl, ?_, _, _, rfl, rfl, _, 5, rfl, rfl, Or.inl ⟨_, rfl, _, 2147483629, rfl, rfl, (by show (0:Int) < 2147483629; decide), ?_⟩⟩
    · exact Or.inr ⟨by decide, by decide⟩
    · exact Or.inr ⟨by decide, by decide⟩
    · exact ⟨_, _, rfl, rfl⟩
  · subst es eh
    -- the dict
    intro pd hpd
    have s1 : Same H' (upd H' pd (.dK [])) := same_upd hpd
    have hS1 := sqL_same s1 hS
    generalize hH1 : upd H' pd (.dK []) = H1 at s1 hS1
    have p1 : H1 pd = some (.dK []) := by rw [← hH1, upd_same]
    refine ⟨.ref a, rfl, a, rfl, ⟨_, hS1⟩, fun Dd hD => ?_⟩
    have nD : pd ≠ Dd := fun z => by rw [← z, p1] at hD; cases hD
    refine lc_it (walk_list (K := X.K) (a := a) (xs := ns.map V.int)) (fun j H => H = upd H1 Dd (.lst ((ns.take j).map fun i => V.int (if i < 0 then -i else i)))) (by simp) (fun j H _ e => by rw [e]; exact sqL_same (same_upd hD) hS1) (fun j x H H2 hj e y => ?_) (fun H e => ?_)
    · subst e
      obtain ⟨y1, y2⟩ := y
      subst y1
      rw [List.getElem?_map] at y2
      obtain ⟨n, hn, rfl⟩ := map_some y2
      refine ⟨rfl, ?_⟩
      unfold tYes
      dsimp only
      rw [if_pos rfl]
      refine ⟨.int n, rfl, n, rfl, _, upd_same, ?_, ?_⟩
      · rw [List.length_map, List.length_take, sizeLine_eq]; omega
      · rw [upd_upd]
        congr 2
        rw [List.take_succ, hn, List.map_append]
        rfl
    · subst e
      rw [List.length_map, List.take_length]
      refine ⟨Dd, _, rfl, SqL.of upd_same, fun c hc => ?_⟩
      have nDc : Dd ≠ c := fun z => by rw [← z, upd_same] at hc; cases hc
      have npc : pd ≠ c := fun z => by rw [← z, upd_ne nD, p1] at hc; cases hc
      have h1c : H1 c = none := by rw [upd_ne (Ne.symm nDc)] at hc; exact hc
      have hc' : H' c = none := by
        cases q : H' c with
        | none => rfl
        | some u => rw [s1 _ _ q] at h1c; cases h1c
      refine ⟨.int m, rfl, ?_⟩
      refine ⟨by rw [upd_ne npc, upd_ne nD]; exact p1, [(.inr "cells", .ref c), (.inr "left", .int 1), (.inr "mixed", .int m), (.inr "turn", .int 0)], rfl, by show 4 ≤ 15; decide, ?_⟩
      refine k m _ ⟨pd, c⟩ ?_ hpd hc' ⟨?_, ?_⟩
      · intro b u q
        have nbp : b ≠ pd := fun z => by rw [z, hpd] at q; cases q
        have nbc : b ≠ c := fun z => by rw [z, hc'] at q; cases q
        have nbD : b ≠ Dd := fun z => by
          have := s1 b u q
          rw [z, hD] at this; cases this
        rw [upd_ne nbp, upd_ne nbc, upd_ne nbD]
        exact s1 b u q
      · show upd _ pd _ pd = _
        rw [upd_same]
        rfl
      · show upd _ pd _ c = _
        rw [upd_ne (Ne.symm npc), upd_same, List.map_reverse, List.map_map]
        rfl
end
end GW

namespace GW
open PySem PySem.Spec PyProof.Rows L2

/-- the source that a script makes -/
def src0 (ns : List Int) (mx : Int) : Src := ⟨(ns.map fun i => if i < 0 then -i else i).reverse, 1, mx, 0⟩
def spSrc (K : PySem.W.Frag) : Sp := fun vs H Q _ => ∃ (a : Addr) (ns : List Int), vs = [.ref a] ∧ SqL K H a (ns.map V.int) ∧ ns.length ≤ 63 ∧
  ∀ mx H' A, Same H H' → H A.d = none → H A.c = none → SrcOk A H' (src0 ns mx) → Q (.ref A.d) H'
def spLaw (K : PySem.W.Frag) : Sp := fun vs H Q _ => ∃ (a : Addr) (ns : List Int), vs = [.ref a] ∧ SqL K H a (ns.map V.int) ∧ ns.length ≤ 63 ∧ ∀ H', Q (.bl true) H'
section
variable {P : Program} {w : World} {K : PySem.W.Frag} {mg : Str → Option Value} {base : Heap} {name : Nat → Option Str} {gl : Nat → Option D} {calls : Nat → List Ga → Src → Option (Ct × Src)}
/-- _law_source -/
theorem fnG_src {qual : Str} {st : Stmt} {fa : Addr} {fd : FuncData} {fs : List Str} {k : Nat} (F : Fun K "_law_source" qual st fa fd) (S : FnScope ["script", "mixed", "cell"] ["script"] (defScope st)) (hblt : ∀ x ∈ bltNames, mg x = none)
    (body : ∀ (X : Cx) (W : Wd), GX X W ["script", "mixed", "cell"] (defScope st) fs → PSs X (defBody st) (tSrc X.K)) : FnG P w K mg base (k + 1) fa fd ["script"] (spSrc K) := by
  refine fnG_mk F S (fun vs H Q E h => ?_) fun cdv Ar outer s0 H vs Q E hgu hr h => ?_
  · obtain ⟨a, ns, rfl, _⟩ := h
    rfl
  · obtain ⟨a, ns, rfl, hS, hl, kk⟩ := h
    refine ⟨_, body _ { A := ⟨0, 0⟩, gl := fun _ => none, calls := fun _ _ _ => none, name := fun _ => none, k := k }
      { hN := rfl, hsc := rfl, nd := S.nd, calm := rfl, gu := hgu, room := hr, xe := rfl, fn := fun _ _ => rfl, blt := hblt, defs := fun f x h => nomatch h }, ?_⟩
    exact ⟨a, ns, rfl, hS, hl, kk⟩
/-- the law -/
theorem fnG_law {qual : Str} {st : Stmt} {fa fS : Addr} {fd fdS : FuncData} {N fs : List Str} {k : Nat} {ir : IR} {p1 p2 p3 p4 p5 : Pos} {rest : List Stmt}
    (F : Fun K "law" qual st fa fd) (S : FnScope N ["script"] (defScope st)) (hblt : ∀ x ∈ bltNames, mg x = none)
    (FS : FnG P w K mg base k fS fdS ["script"] (spSrc K)) (gS : mg "_law_source" = some (.ref fS)) (kS : PySem.W.keepIn K (.ref fS) = true) (bS : Binds K fdS ["script"] [])
    (hb : defBody st = .Assign [.Name "source" p1] (.Call (.Name "_law_source" p2) [.Name "script" p3] [] p4) p5 :: rest)
    (h0 : nmB N (defScope st) 0 "script" = true) (h1 : tgB N (defScope st) fs 1 "source" = true) (hg : glB (defScope st) "_law_source" = true)
    (Df : DefsOk P w K mg base name k calls)
    (body : ∀ (X : Cx) (W : Wd), W.gl = gl → W.calls = calls → W.name = name → GX X W N (defScope st) fs → PSs X rest (tSs W X.K [] ir))
    (math : ∀ ns mx, ns.length ≤ 63 → ∃ e' s', evSs gl calls ir [] (none :: some .s :: List.replicate (N.length - 2) none) (src0 ns mx) = some (.rt (.v (.bool true)), e', s')) :
    FnG P w K mg base (k + 1) fa fd ["script"] (spLaw K) := by
  have l1 := h1
  unfold tgB at l1
  rw [Bool.and_eq_true] at l1
  have e0 : N[0]? = some ("script" : Str) := by
    unfold nmB at h0
    rw [Bool.and_eq_true, Bool.and_eq_true] at h0
    exact of_decide_eq_true h0.1.1
  have e1 : N[1]? = some ("source" : Str) := of_decide_eq_true l1.1
  refine fnG_mk F S (fun vs H Q E h => ?_) fun cdv Ar outer s0 H vs Q E hgu hr h => ?_
  · obtain ⟨a, ns, rfl, _⟩ := h
    rfl
  · obtain ⟨a, ns, rfl, hS, hl, kk⟩ := h
    rw [hb]
    have gx : ∀ A : Sa, GX (cxOf CX0 P w K mg base N qual (defScope st) fa cdv Ar outer s0 H E).nox { A := A, gl := gl, calls := calls, name := name, k := k } N (defScope st) fs := fun A =>
      { hN := rfl, hsc := rfl, nd := S.nd, calm := rfl, gu := hgu, room := hr, xe := rfl, fn := fun _ _ => rfl, blt := hblt, defs := fun f x h => Df A f x h }
    have g0 := gx ⟨0, 0⟩
    obtain ⟨m1, m2⟩ := g0.loc l1.2
    obtain ⟨q1, q2, q3⟩ := g0.gl hg
    have hN : (cxOf CX0 P w K mg base N qual (defScope st) fa cdv Ar outer s0 H E).nox.N.Nodup := S.nd
    have r : PSs (cxOf CX0 P w K mg base N qual (defScope st) fa cdv Ar outer s0 H E).nox rest (fun D σ H => ∃ A, tSs { A := A, gl := gl, calls := calls, name := name, k := k } K [] ir D σ H) :=
      ⟨fun pins s σ H D I ⟨A, h⟩ => (body _ { A := A, gl := gl, calls := calls, name := name, k := k } rfl rfl rfl (gx A)).run pins s σ H D I h⟩
    refine ⟨_, pss_cons (ps_set hN e1 m1 (pe_callG FS hgu hr q1 gS kS bS (pa_cons (one_name g0 h0) pa_nil rfl) q2 rfl rfl) rfl m2) r, ?_⟩
    have hlen : 2 ≤ N.length := by
      have := (List.getElem?_eq_some_iff.mp e1).1
      omega
    refine ⟨.ref a, rfl, a, ns, rfl, hS, hl, fun mx H' A sm nd nc so => ?_⟩
    obtain ⟨e', s', ev⟩ := math ns mx hl
    refine ⟨A, fun _ => none, fun _ => none, fun _ => 0, _, src0 ns mx, _, e', s', ?_, ev, ?_⟩
    · have at1 : ∀ {i c}, at_ (none :: some .s :: List.replicate (N.length - 2) none) i = some c → i = 1 ∧ c = Ct.s := fun {i c} h => by
        unfold at_ at h
        match i with
        | 0 => simp at h
        | 1 =>
          simp at h
          exact ⟨rfl, h.symm⟩
        | i + 2 =>
          simp [List.getElem?_replicate] at h
          split at h <;> simp at h
      refine { sub := fun _ _ h => (by cases h), frm := fun _ _ h => (by cases h), src := so, ngd := rfl, ngc := rfl, len := ?_, slot := fun i c h => ?_, own := fun i c p h ow => ?_, lkb := fun i hi => absurd hi (by simp), dis := fun i j c c' p h _ ow => ?_ }
      · unfold L2.start
        simp
        omega
      · obtain ⟨rfl, rfl⟩ := at1 h
        refine ⟨.ref A.d, ?_, rfl⟩
        rw [List.getElem?_set_self]
        unfold L2.start
        simp
        omega
      · obtain ⟨rfl, rfl⟩ := at1 h
        cases ow
      · obtain ⟨rfl, rfl⟩ := at1 h
        cases ow
    · intro v σ' G' H'' a' ext cok
      cases (show Dq K G' v (.bool true) from cok.1)
      exact kk _
end
end GW

namespace GW
open PySem PySem.Spec PyProof.Rows L2

section
variable {X : Cx} {W : Wd} {N : List Str} {sc : Scope} {fs : List Str} {x y z : Str} {a b c : Expr} {px py pz pt p2 : Pos} {kt k2 : Nat}
theorem blk_fn (g : GX X W N sc fs) (hk : sc.kind = .function) : X.env.blockKind = .function := by
  unfold Env.blockKind
  rw [g.hsc, hk]
  rfl
theorem kind_of (g : GX X W N sc fs) (x : Str) : X.env.kindOf x = sc.names.lookup x := by
  show X.env.scope.names.lookup x = _
  rw [g.hsc]
theorem sw2 (g : GX X W N sc fs) (hk : sc.kind = .function) (hx : sc.names.lookup x = some .local) (hy : sc.names.lookup y = some .local) (hxy : (x == y) = false) (hl : (py.line == px.line) = true) (hs : notStar a = true) (ht : notStar b = true)
    (h1 : [a, b].all (foldedForSure 8) = false) (h2 : [a, b].all (constantsAlone 8) = false) :
    swappedStores [.Tuple [.Name x px, .Name y py] kt pt] (.Tuple [a, b] k2 p2) X.env = pure (some [x, y]) := by
  have e1 := blk_fn g hk
  have e2 := (kind_of g x).trans hx
  have e3 := (kind_of g y).trans hy
  have e4 : ∀ f : Expr → Bool, f a = false → f b = false → [a, b].any f = false := fun f q1 q2 => by simp [q1, q2]
  have e5 : (y == x) = false := by
    have : x ≠ y := fun z => by rw [z] at hxy; simp at hxy
    exact beq_eq_false_iff_ne.mpr (Ne.symm this)
  unfold swappedStores
  simp only [e1, e2, e3, h1, h2, Expr.pos, List.head?, Option.map, Option.getD, List.filterMap, hl]
  rw [e4 _ (by cases a <;> first | rfl | cases hs) (by cases b <;> first | rfl | cases ht)]
  simp [List.eraseDups_cons, hxy, e5]
theorem sw2c (g : GX X W N sc fs) (hx : sc.names.lookup x = some .cell ∨ sc.names.lookup y = some .cell) :
    swappedStores [.Tuple [.Name x px, .Name y py] kt pt] (.Tuple [a, b] k2 p2) X.env = pure none := by
  unfold swappedStores
  rcases hx with h | h
  · have e2 := (kind_of g x).trans h
    simp only [e2, Expr.pos, List.head?, Option.map, Option.getD, List.filterMap]
    by_cases hq : (X.env.kindOf y == some NameKind.local && py.line == px.line) = true <;> simp [show (some NameKind.cell == some NameKind.local) = false from rfl, hq]
  · have e2 := (kind_of g y).trans h
    simp only [e2, Expr.pos, List.head?, Option.map, Option.getD, List.filterMap]
    by_cases hq : (X.env.kindOf x == some NameKind.local) = true <;> simp [show (some NameKind.cell == some NameKind.local) = false from rfl, hq]
theorem sw_sub2 {o1 o2 i1 i2 : Expr} : swappedStores [.Tuple [.Subscript o1 i1 px, .Subscript o2 i2 py] kt pt] (.Tuple [a, b] k2 p2) X.env = pure none := by
  unfold swappedStores
  simp only [List.filterMap]
  simp
theorem sw_many {ts vs : List Expr} (h : (ts.length == 2 || ts.length == 3) = false) : swappedStores [.Tuple ts kt pt] (.Tuple vs k2 p2) X.env = pure none := by
  unfold swappedStores
  simp only [h]
  simp
end
section
variable {P : Program} {w : World} {K : PySem.W.Frag} {mg : Str → Option Value} {base : Heap} {name : Nat → Option Str} {gl : Nat → Option D} {pick : Src → Int → Option (Int × Src)} {fns : Nat → Option Fn}
/-- what the module holds under a name -/
def DefFact (K : PySem.W.Frag) (mg : Str → Option Value) (x : Str) (st : Stmt) (ps : List Str) : Prop :=
  ∃ fa fd, mg x = some (.ref fa) ∧ PySem.W.keepIn K (.ref fa) = true ∧ Fun K x x st fa fd ∧ Binds K fd ps []
theorem def_mk {h : Heap} {x : Str} {st : Stmt} {ps : List Str} {f : Addr} {od an : Option Addr} {sl : Array (Option Value)} {oc kV dc pm cd ct : Value} (X : K.In h) (G : h.Ns mainGlobals mg)
    (b : ∀ (kV doc pm : Value) (an : Option Addr) (cdv ct : Value) (us : List Value), us.length = ps.length → bindArgs (PySem.W.fnOf x x (defArgs st) (defBody st) (defScope st) .none kV doc pm an cdv ct) ⟨us, []⟩ = pure (ps.zip us))
    (a : PySem.W.nsIn K mainGlobals x = some (some (.ref f))) (l : K.lookup f = some ⟨oc, od, .func (PySem.W.fnOf x x (defArgs st) (defBody st) (defScope st) .none kV dc pm an cd ct), sl⟩) (c : PySem.W.codeIn K cd x = true) (k : PySem.W.keepIn K (.ref f) = true) :
    DefFact K mg x st ps := by
  have F := fun_mk (st := st) l c k
  exact ⟨f, _, PySem.W.mg_of X G a, k, F, F.binds b⟩
theorem fnG_zero {fa : Addr} {fd : FuncData} {ps : List Str} {k f : Nat} {A : Sa} : FnG P w K mg base k fa fd ps (spG K A (callF gl pick fns 0) f) :=
  ⟨fun vs H Q E ⟨_, _, _, _, _, _, _, _, _, _, hc, _⟩ => (by cases hc), fun A' outer s H args us vs Q E _ _ _ _ _ ⟨_, _, _, _, _, _, _, _, _, _, hc, _⟩ => (by cases hc)⟩
/-- one def, at every depth -/
structure DefIr (P : Program) (w : World) (K : PySem.W.Frag) (mg : Str → Option Value) (base : Heap) (name : Nat → Option Str) (gl : Nat → Option D) (pick : Src → Int → Option (Int × Src)) (fns : Nat → Option Fn) (f : Nat) (x : Str) : Prop where
  ex : ∃ (st : Stmt) (ps N fs : List Str) (d : Fn), DefFact K mg x st ps ∧ FnScope N ps (defScope st) ∧ fns f = some d ∧ f ≠ 0 ∧ d.ns = N.length ∧ d.np = ps.length ∧
    ∀ (X : Cx) (W : Wd) (lk : List Nat), W.gl = gl → W.name = name → GX X W N (defScope st) fs → PSs X (defBody st) (tSs W X.K lk d.body)
theorem defs_ok (hblt : ∀ x ∈ bltNames, mg x = none) (h : ∀ f x, name f = some x → DefIr P w K mg base name gl pick fns f x) : ∀ n, DefsOk P w K mg base name n (callF gl pick fns n)
  | 0 => fun A f x hn => by
    obtain ⟨st, ps, N, fs, d, ⟨fa, fd, h1, h2, F, b⟩, _⟩ := (h f x hn).ex
    exact ⟨fa, fd, ps, h1, h2, b, fnG_zero⟩
  | n + 1 => fun A f x hn => by
    have ih := defs_ok hblt h n
    obtain ⟨st, ps, N, fs, d, ⟨fa, fd, h1, h2, F, b⟩, S, hd, hf, e1, e2, body⟩ := (h f x hn).ex
    exact ⟨fa, fd, ps, h1, h2, b, fnG_ir F S hd hf e1 e2 hblt ih fun X W lk g1 _ g3 gx => body X W lk g1 g3 gx⟩
end
end GW

namespace GW
open PySem

section
variable {gl : Nat → Option D} {cs : Nat → List Ga → Src → Option (Ct × Src)} {a r b it tg c el : IR} {lk lks own : List Nat} {σ σ1 σ2 σ3 : Sl} {s s1 s2 s3 : Src} {v : Ct} {ds : List D}
theorem ss_nx (h : evS gl cs a lk σ s = some (.nx, σ1, s1)) : evSs gl cs (.cons a r) lk σ s = evSs gl cs r lk σ1 s1 := by
  show (evS gl cs a lk σ s).bind _ = _
  rw [h]; rfl
theorem ss_rt (h : evS gl cs a lk σ s = some (.rt v, σ1, s1)) : evSs gl cs (.cons a r) lk σ s = some (.rt v, σ1, s1) := by
  show (evS gl cs a lk σ s).bind _ = _
  rw [h]; rfl
theorem for_eq (h : evI gl cs it lk σ s = some (ds, lks, σ1, s1)) : evS gl cs (.for_ it tg b) lk σ s = walk (bindT tg (lks ++ lk)) (evSs gl cs b (lks ++ lk)) ds σ1 s1 := by
  show (evI gl cs it lk σ s).bind _ = _
  rw [h]; rfl
theorem if_t (h : evT gl cs c lk σ s = some (true, σ1, s1)) : evS gl cs (.if_ c a b) lk σ s = evSs gl cs a lk σ1 s1 := by
  show (evT gl cs c lk σ s).bind _ = _
  rw [h]; rfl
theorem if_f (h : evT gl cs c lk σ s = some (false, σ1, s1)) : evS gl cs (.if_ c a b) lk σ s = evSs gl cs b lk σ1 s1 := by
  show (evT gl cs c lk σ s).bind _ = _
  rw [h]; rfl
theorem asg_nm {i : Nat} (h : evE gl cs a lk σ s = some (v, σ1, s1)) (hi : (lk.contains i || decide (σ1.length ≤ i)) = false) (hv : v ≠ .s) : evS gl cs (.asg (.tname i) a) lk σ s = some (.nx, σ1.set i (some v), s1) := by
  show (evE gl cs a lk σ s).bind _ = _
  rw [h]
  show (putT gl cs (.tname i) lk v σ1 s1).map _ = _
  have : putT gl cs (.tname i) lk v σ1 s1 = some (σ1.set i (some v), s1) := by
    show (if (lk.contains i || decide (σ1.length ≤ i)) = true then none else _) = _
    rw [if_neg (by rw [hi]; simp)]
    cases v <;> first
      | rfl
      | exact absurd rfl hv
  rw [this]; rfl
theorem ret_eq (h : evE gl cs a lk σ s = some (v, σ1, s1)) (hv : v ≠ .s) : evS gl cs (.ret a) lk σ s = some (.rt v, σ1, s1) := by
  show (evE gl cs a lk σ s).bind _ = _
  rw [h]
  cases v <;> first
    | rfl
    | exact absurd rfl hv
theorem walk_nx {bind : D → Sl → Option Sl} {body : Sl → Src → Option (Fl × Sl × Src)} {d : D} (h1 : bind d σ = some σ1) (h2 : body σ1 s = some (.nx, σ2, s2)) : walk bind body (d :: ds) σ s = walk bind body ds σ2 s2 := by
  show (bind d σ).bind _ = _
  rw [h1]
  show (body σ1 s).bind _ = _
  rw [h2]; rfl
theorem walk_nil {bind : D → Sl → Option Sl} {body : Sl → Src → Option (Fl × Sl × Src)} : walk bind body [] σ s = some (.nx, σ, s) := rfl
section
variable {bind : D → Sl → Option Sl} {cnd : Sl → Src → Option (Bool × Sl × Src)} {elt : Sl → Src → Option (Ct × Sl × Src)} {d x : D} {acc out : List D}
theorem turns_t (h1 : bind d σ = some σ1) (h2 : cnd σ1 s = some (true, σ2, s2)) (h3 : elt σ2 s2 = some (v, σ3, s3)) (h4 : frz v = some x) (h5 : acc.length < sizeLine) :
    turns own bind cnd elt (d :: ds) σ s acc = turns own bind cnd elt ds (wipeS σ3 own) s3 (acc ++ [x]) := by
  show (bind d σ).bind _ = _
  rw [h1]
  show (cnd σ1 s).bind _ = _
  rw [h2]
  show (elt σ2 s2).bind _ = _
  rw [h3]
  show (frz v).bind _ = _
  rw [h4]
  show (if decide (acc.length < sizeLine) = true then _ else _) = _
  rw [if_pos (decide_eq_true h5)]
theorem turns_f (h1 : bind d σ = some σ1) (h2 : cnd σ1 s = some (false, σ2, s2)) : turns own bind cnd elt (d :: ds) σ s acc = turns own bind cnd elt ds (wipeS σ2 own) s2 acc := by
  show (bind d σ).bind _ = _
  rw [h1]
  show (cnd σ1 s).bind _ = _
  rw [h2]; rfl
/-- one by one, those that are wanted; nothing else changes -/
theorem turns_flt {p : D → Bool} {f : D → D} : ∀ {ds acc : List D}, acc.length + ds.length ≤ sizeLine →
    (∀ d ∈ ds, ∃ σ1 σ2, bind d σ = some σ1 ∧ cnd σ1 s = some (p d, σ2, s) ∧ wipeS σ2 own = σ ∧ (p d = true → ∃ v σ3, elt σ2 s = some (v, σ3, s) ∧ frz v = some (f d) ∧ wipeS σ3 own = σ)) →
    turns own bind cnd elt ds σ s acc = some (acc ++ (ds.filter p).map f, σ, s)
  | [], acc, _, _ => by simp [turns]
  | d :: ds, acc, hl, h => by
    obtain ⟨σ1, σ2, h1, h2, h3, h4⟩ := h d (by simp)
    rw [List.length_cons] at hl
    cases hp : p d with
    | false =>
      rw [turns_f h1 (by rw [h2, hp]), h3, turns_flt (by omega) fun d' hd => h d' (by simp [hd])]
      simp [hp]
    | true =>
      obtain ⟨v, σ3, h5, h6, h7⟩ := h4 hp
      rw [turns_t h1 (by rw [h2, hp]) h5 h6 (by omega), h7, turns_flt (by simp; omega) fun d' hd => h d' (by simp [hd])]
      simp [hp]
theorem turns_map {f : D → D} {ds acc : List D} (hl : acc.length + ds.length ≤ sizeLine) (h : ∀ d ∈ ds, ∃ σ1 v σ3, bind d σ = some σ1 ∧ cnd σ1 s = some (true, σ1, s) ∧ wipeS σ1 own = σ ∧ elt σ1 s = some (v, σ3, s) ∧ frz v = some (f d) ∧ wipeS σ3 own = σ) :
    turns own bind cnd elt ds σ s acc = some (acc ++ ds.map f, σ, s) := by
  have := turns_flt (own := own) (bind := bind) (cnd := cnd) (elt := elt) (σ := σ) (s := s) (p := fun _ => true) (f := f) hl fun d hd => by
    obtain ⟨σ1, v, σ3, h1, h2, h3, h4, h5, h6⟩ := h d hd
    exact ⟨σ1, σ1, h1, h2, h3, fun _ => ⟨v, σ3, h4, h5, h6⟩⟩
  rw [this, List.filter_eq_self.mpr (fun _ _ => rfl)]
end
theorem comp_eq {out : List D} (h : evI gl cs it lk σ s = some (ds, lks, σ1, s1)) (h1 : (own.all (free σ1) && (slotsT tg).all own.contains) = true)
    (h2 : turns own (bindT tg (lks ++ lk)) (evT gl cs c (lks ++ lk)) (evE gl cs el (lks ++ lk)) ds (wipeS σ1 own) s1 [] = some (out, σ2, s2)) :
    evE gl cs (.comp own it tg c el) lk σ s = some (.l out, backS σ2 σ1 own, s2) := by
  show (evI gl cs it lk σ s).bind _ = _
  rw [h]
  show (if (own.all (free σ1) && (slotsT tg).all own.contains) = true then _ else _) = _
  rw [if_pos h1]
  show (turns _ _ _ _ _ _ _ _).map _ = _
  rw [h2]; rfl
/-- a while that ends -/
theorem again_go {cnd : Sl → Src → Option (Bool × Sl × Src)} {body : Sl → Src → Option (Fl × Sl × Src)} {n : Nat} (h1 : cnd σ s = some (true, σ1, s1)) (h2 : body σ1 s1 = some (.nx, σ2, s2)) : again cnd body (n + 1) σ s = again cnd body n σ2 s2 := by
  show (cnd σ s).bind _ = _
  rw [h1]
  show (body σ1 s1).bind _ = _
  rw [h2]; rfl
theorem again_stop {cnd : Sl → Src → Option (Bool × Sl × Src)} {body : Sl → Src → Option (Fl × Sl × Src)} {n : Nat} (h1 : cnd σ s = some (false, σ1, s1)) : again cnd body (n + 1) σ s = some (.nx, σ1, s1) := by
  show (cnd σ s).bind _ = _
  rw [h1]; rfl
end
section
variable {gl : Nat → Option D} {cs : Nat → List Ga → Src → Option (Ct × Src)} {a b c : IR} {lk : List Nat} {σ σ1 σ2 σ3 : Sl} {s s1 s2 s3 : Src} {v u w : Ct} {x y z : D} {o : Op}
theorem evAs_nl (nl : notLend a = true) (h : evE gl cs a lk σ s = some (v, σ1, s1)) (hf : frz v = some x) : evAs gl cs (.cons a b) lk σ s = (evAs gl cs b lk σ1 s1).map fun (as, σ2, s2) => (.d x :: as, σ2, s2) := by
  have e : evAs gl cs (.cons a b) lk σ s = (evE gl cs a lk σ s).bind fun (c, σ1, s1) => (frz c).bind fun d => (evAs gl cs b lk σ1 s1).map fun (as, σ2, s2) => (.d d :: as, σ2, s2) := by
    cases a <;> first
      | rfl
      | cases nl
  rw [e, h]
  show (frz v).bind _ = _
  rw [hf]; rfl
theorem op1e (nl : notLend a = true) (h : evE gl cs a lk σ s = some (v, σ1, s1)) (hf : frz v = some x) (ho : opD o [.d x] = some w) : evE gl cs (.op o (.cons a .nil)) lk σ s = some (w, σ1, s1) := by
  show (evAs gl cs (.cons a .nil) lk σ s).bind _ = _
  rw [evAs_nl nl h hf]
  show (opD o [.d x]).map _ = _
  rw [ho]; rfl
theorem op2e (nl : notLend a = true) (h : evE gl cs a lk σ s = some (v, σ1, s1)) (hf : frz v = some x) (nl2 : notLend b = true) (h2 : evE gl cs b lk σ1 s1 = some (u, σ2, s2)) (hf2 : frz u = some y) (ho : opD o [.d x, .d y] = some w) :
    evE gl cs (.op o (.cons a (.cons b .nil))) lk σ s = some (w, σ2, s2) := by
  show (evAs gl cs (.cons a (.cons b .nil)) lk σ s).bind _ = _
  rw [evAs_nl nl h hf, evAs_nl nl2 h2 hf2]
  show (opD o [.d x, .d y]).map _ = _
  rw [ho]; rfl
theorem call_eq {f : Nat} {gs : List Ga} (h : evG gl cs a lk σ s = some (gs, σ1, s1)) (h2 : cs f gs s1 = some (v, s2)) : evE gl cs (.call f a) lk σ s = some (v, σ1, s2) := by
  show (evG gl cs a lk σ s).bind _ = _
  rw [h]
  show (cs f gs s1).map _ = _
  rw [h2]; rfl
theorem g_v {gs : List Ga} {g : Ga} (nl : notLend a = true) (h : evE gl cs a lk σ s = some (v, σ1, s1)) (hf : toGa v = some g) (h2 : evG gl cs b lk σ1 s1 = some (gs, σ2, s2)) : evG gl cs (.cons a b) lk σ s = some (g :: gs, σ2, s2) := by
  have e : evG gl cs (.cons a b) lk σ s = (evE gl cs a lk σ s).bind fun (c, σ1, s1) => (toGa c).bind fun g => (evG gl cs b lk σ1 s1).map fun (gs, σ2, s2) => (g :: gs, σ2, s2) := by
    cases a <;> first
      | rfl
      | cases nl
  rw [e, h]
  show (toGa v).bind _ = _
  rw [hf]
  show (evG gl cs b lk σ1 s1).map _ = _
  rw [h2]; rfl
theorem g_nl : evG gl cs .nil lk σ s = some ([], σ, s) := rfl
theorem irng1_eq {j : Int} {ds : List D} (h : evE gl cs a lk σ s = some (.v (.int j), σ1, s1)) (hr : rng1 j = some ds) : evI gl cs (.irng1 a) lk σ s = some (ds, [], σ1, s1) := by
  show (evE gl cs a lk σ s).bind _ = _
  rw [h]
  show (rng1 j).map _ = _
  rw [hr]; rfl
theorem pop_eq {i j : Nat} {n : Int} {ds0 ds : List D} (h0 : at_ σ i = some (.l ds0)) (h : evE gl cs a lk σ s = some (.v (.int n), σ1, s1)) (hl : lk.contains i = false) (h1 : at_ σ1 i = some (.l ds)) (hw : within n = true) (hj : seqIndex? n ds.length = some j) (hx : ds[j]? = some x) :
    evE gl cs (.pop i a) lk σ s = some (.v x, σ1.set i (some (.l (ds.eraseIdx j))), s1) := by
  show (match at_ σ i with
    | some (.l _) => (evE gl cs a lk σ s).bind _
    | _ => none) = _
  rw [h0]
  show (evE gl cs a lk σ s).bind _ = _
  rw [h]
  show (if lk.contains i = true then none else match at_ σ1 i with
        | some (.l ds) => if within n then (seqIndex? n ds.length).bind fun j => (ds[j]?).map fun d => (Ct.v d, σ1.set i (some (.l (ds.eraseIdx j))), s1) else none
        | _ => none) = _
  rw [if_neg (by rw [hl]; simp), h1]
  show (if within n then (seqIndex? n ds.length).bind fun j => (ds[j]?).map fun d => (Ct.v d, σ1.set i (some (.l (ds.eraseIdx j))), s1) else none) = _
  rw [if_pos hw, hj]
  show (ds[j]?).map _ = _
  rw [hx]; rfl
theorem ds_cons (h : evE gl cs a lk σ s = some (v, σ1, s1)) (hf : frz v = some x) {ds : List D} (h2 : evDs gl cs b lk σ1 s1 = some (ds, σ2, s2)) : evDs gl cs (.cons a b) lk σ s = some (x :: ds, σ2, s2) := by
  show (evE gl cs a lk σ s).bind _ = _
  rw [h]
  show (frz v).bind _ = _
  rw [hf]
  show (evDs gl cs b lk σ1 s1).map _ = _
  rw [h2]; rfl
theorem ds_nil : evDs gl cs .nil lk σ s = some ([], σ, s) := rfl
theorem lst_eq {ds : List D} (h : evDs gl cs a lk σ s = some (ds, σ1, s1)) (hz : ds.length ≤ 1000) : evE gl cs (.lst a) lk σ s = some (.l ds, σ1, s1) := by
  show (evDs gl cs a lk σ s).bind _ = _
  rw [h]
  show (if fits ds.length = true then _ else _) = _
  rw [if_pos (show fits ds.length = true from decide_eq_true (by rw [sizeLine_eq]; omega))]
theorem tup_eq {ds : List D} (h : evDs gl cs a lk σ s = some (ds, σ1, s1)) (hz : ds.length ≤ 1000) : evE gl cs (.tup a) lk σ s = some (.v (.tuple ds), σ1, s1) := by
  show (evDs gl cs a lk σ s).bind _ = _
  rw [h]
  show (if fits ds.length = true then _ else _) = _
  rw [if_pos (show fits ds.length = true from decide_eq_true (by rw [sizeLine_eq]; omega))]
theorem tru_eq {t : Bool} (h : evE gl cs a lk σ s = some (.v (.bool t), σ1, s1)) : evT gl cs (.tru a) lk σ s = some (t, σ1, s1) := by
  show (evE gl cs a lk σ s).bind _ = _
  rw [h]; rfl
end
theorem ixN_n {n j : Nat} (h : j < n) : L2.ixN n (j : Int) = some j := by
  unfold L2.ixN
  simp [h]
theorem atI_n {row : List D} {j : Nat} {b : D} (h : row[j]? = some b) : L2.atI row (j : Int) = some b := by
  unfold L2.atI
  rw [ixN_n (List.getElem?_eq_some_iff.mp h).1]
  exact h
theorem sIx_n (n d k : Nat) : HT.sIx n d (some (k : Int)) = min k n := HT.sIx_nat n d k
theorem cut_hi (xs : List D) (k : Nat) : cutL xs none (some (k : Int)) = xs.take k := by
  unfold cutL
  rw [sIx_n, HT.sIx_none, Nat.sub_zero, List.drop_zero]
  by_cases h : k ≤ xs.length
  · rw [Nat.min_eq_left h]
  · rw [Nat.min_eq_right (by omega), List.take_of_length_le (Nat.le_refl _), List.take_of_length_le (by omega)]
theorem cut_lo (xs : List D) (k : Nat) : cutL xs (some (k : Int)) none = xs.drop k := by
  unfold cutL
  rw [sIx_n, HT.sIx_none]
  by_cases h : k ≤ xs.length
  · rw [Nat.min_eq_left h, List.take_of_length_le (by simp)]
  · rw [Nat.min_eq_right (by omega), List.drop_length, Nat.sub_self, List.take_zero, List.drop_of_length_le (by omega)]
theorem int_two (k : Nat) : (k : Int) + 2 = ((k + 2 : Nat) : Int) := by omega
theorem int_one (k : Nat) : (k : Int) + 1 = ((k + 1 : Nat) : Int) := by omega
theorem fits_n {n : Nat} (h : n ≤ 1000) : fits n = true := decide_eq_true (by rw [sizeLine_eq]; omega)
end GW

namespace GW.Law
open PySem PySem.Spec PyProof.Rows L2 GW
def topS (i : Nat) : Stmt := PySem.Challenge.pw_goodwebs_k89_rows_and_words.main.body.getD i (.Pass ⟨0, 0, 0, 0⟩)
def nmF : Nat → Option Str
  | 1 => some "plain"
  | 2 => some "greatest"
  | 3 => some "exchanged"
  | 4 => some "swapped"
  | 5 => some "led"
  | 6 => some "row_of"
  | 7 => some "other_way"
  | 8 => some "behind"
  | 9 => some "place_of"
  | 10 => some "_law_pick"
  | 11 => some "_law_of"
  | 12 => some "_law_mixed"
  | 13 => some "_law_row"
  | 14 => some "_law_word"
  | 15 => some "_law_led"
  | 16 => some "_law_behind"
  | _ => none
/-- plain -/
abbrev st1 : Stmt := topS 1
def d1 : Fn := ⟨1, 1, (.cons (.ret (.op .tupR1 (.cons (.lend 0) .nil))) .nil)⟩
theorem sc1 : FnScope ["n"] ["n"] (defScope st1) := ⟨rfl, rfl, rfl, by decide +kernel, rfl, by decide +kernel, by decide +kernel⟩
theorem b1 (X : Cx) (W : Wd) (lk : List Nat) (hn : W.name = nmF) (g : GX X W ["n"] (defScope st1) ["n"]) : PSs X (defBody st1) (tSs W X.K lk d1.body) :=
  (ss_cons (s_ret (s_tupR1 g (by decide +kernel) (by decide +kernel) rfl (s_lend g (by decide +kernel)))) ss_nil)
/-- greatest -/
abbrev st2 : Stmt := topS 2
def d2 : Fn := ⟨1, 1, (.cons (.ret (.op .tupR3 (.cons (.op .sub (.cons (.lend 0) (.cons (.con (.int 1)) .nil))) (.cons (.op .neg (.cons (.con (.int 1)) .nil)) (.cons (.op .neg (.cons (.con (.int 1)) .nil)) .nil))))) .nil)⟩
theorem sc2 : FnScope ["n"] ["n"] (defScope st2) := ⟨rfl, rfl, rfl, by decide +kernel, rfl, by decide +kernel, by decide +kernel⟩
theorem b2 (X : Cx) (W : Wd) (lk : List Nat) (hn : W.name = nmF) (g : GX X W ["n"] (defScope st2) ["n"]) : PSs X (defBody st2) (tSs W X.K lk d2.body) :=
  (ss_cons (s_ret (s_tupR3 g (by decide +kernel) (by decide +kernel) rfl rfl rfl (s_a rfl (s_bin rfl (s_lend g (by decide +kernel)) (s_a rfl s_cint))) (s_a rfl (s_neg (s_a rfl s_cint))) (s_a rfl (s_neg (s_a rfl s_cint))))) ss_nil)
/-- exchanged -/
abbrev st3 : Stmt := topS 3
def d3 : Fn := ⟨3, 4, (.cons (.asg (.tname 3) (.op .list (.cons (.lend 0) .nil))) (.cons (.par (.cons (.tsub 3 (.var 1)) (.cons (.tsub 3 (.var 2)) .nil)) (.cons (.op .ix (.cons (.lend 3) (.cons (.lend 2) .nil))) (.cons (.op .ix (.cons (.lend 3) (.cons (.lend 1) .nil))) .nil))) (.cons (.ret (.op .tuple (.cons (.lend 3) .nil))) .nil)))⟩
theorem sc3 : FnScope ["row", "i", "j", "found"] ["row", "i", "j"] (defScope st3) := ⟨rfl, rfl, rfl, by decide +kernel, rfl, by decide +kernel, by decide +kernel⟩
theorem b3 (X : Cx) (W : Wd) (lk : List Nat) (hn : W.name = nmF) (g : GX X W ["row", "i", "j", "found"] (defScope st3) ["row", "i", "j", "found"]) : PSs X (defBody st3) (tSs W X.K lk d3.body) :=
  (ss_cons (s_asg rfl rfl rfl (gp_name g (by decide +kernel)) (s_list g (by decide +kernel) rfl (s_lend g (by decide +kernel)))) (ss_cons (s_parD g rfl (by decide) rfl rfl sw_sub2 (gds_cons g (by decide +kernel) rfl (s_name g (by decide +kernel)) (gds_cons g (by decide +kernel) rfl (s_name g (by decide +kernel)) gds_nil)) (s_ccons rfl (s_ix g.units rfl (s_lend g (by decide +kernel)) (s_lend g (by decide +kernel))) (s_ccons rfl (s_ix g.units rfl (s_lend g (by decide +kernel)) (s_lend g (by decide +kernel))) s_cnil))) (ss_cons (s_ret (s_tuple g (by decide +kernel) rfl (s_lend g (by decide +kernel)))) ss_nil)))
/-- swapped -/
abbrev st4 : Stmt := topS 4
def d4 : Fn := ⟨2, 2, (.cons (.ret (.call 3 (.cons (.var 0) (.cons (.var 1) (.cons (.op .add (.cons (.lend 1) (.cons (.con (.int 1)) .nil))) .nil))))) .nil)⟩
theorem sc4 : FnScope ["row", "k"] ["row", "k"] (defScope st4) := ⟨rfl, rfl, rfl, by decide +kernel, rfl, by decide +kernel, by decide +kernel⟩
theorem b4 (X : Cx) (W : Wd) (lk : List Nat) (hn : W.name = nmF) (g : GX X W ["row", "k"] (defScope st4) ["row", "k"]) : PSs X (defBody st4) (tSs W X.K lk d4.body) :=
  (ss_cons (s_ret (s_call g (f := 3) (by rw [hn]; rfl) (by decide +kernel) rfl (s_gcons rfl rfl (s_name g (by decide +kernel)) (s_gcons rfl rfl (s_name g (by decide +kernel)) (s_gcons rfl rfl (s_bin rfl (s_lend g (by decide +kernel)) (s_a rfl s_cint)) s_gnil))))) ss_nil)
/-- led -/
abbrev st5 : Stmt := topS 5
def d5 : Fn := ⟨2, 3, (.cons (.for_ (.iseq (.var 1)) (.tname 2) (.cons (.asg (.tname 0) (.call 4 (.cons (.var 0) (.cons (.var 2) .nil)))) .nil)) (.cons (.ret (.mv 0)) .nil))⟩
theorem sc5 : FnScope ["row", "word", "k"] ["row", "word"] (defScope st5) := ⟨rfl, rfl, rfl, by decide +kernel, rfl, by decide +kernel, by decide +kernel⟩
theorem b5 (X : Cx) (W : Wd) (lk : List Nat) (hn : W.name = nmF) (g : GX X W ["row", "word", "k"] (defScope st5) ["row", "word", "k"]) : PSs X (defBody st5) (tSs W X.K lk d5.body) :=
  (ss_cons (s_for g rfl (i_seq rfl (s_name g (by decide +kernel))) (g_name g (by decide +kernel)) (ss_cons (s_asg rfl rfl rfl (gp_name g (by decide +kernel)) (s_call g (f := 4) (by rw [hn]; rfl) (by decide +kernel) rfl (s_gcons rfl rfl (s_name g (by decide +kernel)) (s_gcons rfl rfl (s_name g (by decide +kernel)) s_gnil)))) ss_nil)) (ss_cons (s_ret (s_mov g (by decide +kernel))) ss_nil))
/-- row_of -/
abbrev st6 : Stmt := topS 6
def d6 : Fn := ⟨2, 2, (.cons (.ret (.call 5 (.cons (.call 1 (.cons (.var 0) .nil)) (.cons (.var 1) .nil)))) .nil)⟩
theorem sc6 : FnScope ["n", "word"] ["n", "word"] (defScope st6) := ⟨rfl, rfl, rfl, by decide +kernel, rfl, by decide +kernel, by decide +kernel⟩
theorem b6 (X : Cx) (W : Wd) (lk : List Nat) (hn : W.name = nmF) (g : GX X W ["n", "word"] (defScope st6) ["n", "word"]) : PSs X (defBody st6) (tSs W X.K lk d6.body) :=
  (ss_cons (s_ret (s_call g (f := 5) (by rw [hn]; rfl) (by decide +kernel) rfl (s_gcons rfl rfl (s_call g (f := 1) (by rw [hn]; rfl) (by decide +kernel) rfl (s_gcons rfl rfl (s_name g (by decide +kernel)) s_gnil)) (s_gcons rfl rfl (s_name g (by decide +kernel)) s_gnil)))) ss_nil)
/-- other_way -/
abbrev st7 : Stmt := topS 7
def d7 : Fn := ⟨1, 4, (.cons (.asg (.tname 1) (.op .mul (.cons (.lst (.cons (.con (.int 0)) .nil)) (.cons (.op .len (.cons (.lend 0) .nil)) .nil)))) (.cons (.for_ (.ienum (.var 0)) (.ttup (.cons (.tname 2) (.cons (.tname 3) .nil))) (.cons (.setit 1 (.var 3) (.var 2)) .nil)) (.cons (.ret (.op .tuple (.cons (.lend 1) .nil))) .nil)))⟩
theorem sc7 : FnScope ["row", "found", "k", "thing"] ["row"] (defScope st7) := ⟨rfl, rfl, rfl, by decide +kernel, rfl, by decide +kernel, by decide +kernel⟩
theorem b7 (X : Cx) (W : Wd) (lk : List Nat) (hn : W.name = nmF) (g : GX X W ["row", "found", "k", "thing"] (defScope st7) ["row", "found", "k", "thing"]) : PSs X (defBody st7) (tSs W X.K lk d7.body) :=
  (ss_cons (s_asg rfl rfl rfl (gp_name g (by decide +kernel)) (s_bin rfl (s_a rfl (s_lst (s_dcons rfl s_cint s_dnil))) (s_a rfl (s_len g (by decide +kernel) rfl (s_lend g (by decide +kernel)))))) (ss_cons (s_for g rfl (i_enum g (by decide +kernel) rfl (s_name g (by decide +kernel))) (g_tup g rfl rfl (g_cons rfl (g_name g (by decide +kernel)) (g_cons rfl (g_name g (by decide +kernel)) g_nil))) (ss_cons (s_setit g (by decide +kernel) rfl rfl (s_name g (by decide +kernel)) (s_name g (by decide +kernel))) ss_nil)) (ss_cons (s_ret (s_tuple g (by decide +kernel) rfl (s_lend g (by decide +kernel)))) ss_nil)))
/-- behind -/
abbrev st8 : Stmt := topS 8
def d8 : Fn := ⟨2, 3, (.cons (.ret (.op .tuple (.cons (.comp [2] (.iseq (.var 1)) (.tname 2) .yes (.op .ix (.cons (.lend 0) (.cons (.lend 2) .nil)))) .nil))) .nil)⟩
theorem sc8 : FnScope ["one", "other", "k"] ["one", "other"] (defScope st8) := ⟨rfl, rfl, rfl, by decide +kernel, rfl, by decide +kernel, by decide +kernel⟩
theorem b8 (X : Cx) (W : Wd) (lk : List Nat) (hn : W.name = nmF) (g : GX X W ["one", "other", "k"] (defScope st8) ["one", "other", "k"]) : PSs X (defBody st8) (tSs W X.K lk d8.body) :=
  (ss_cons (s_ret (s_tuple g (by decide +kernel) rfl (s_a rfl (s_comp (own := [("k", 2)]) (fs' := []) g (by decide +kernel) (by decide +kernel) rfl (i_seq rfl (s_name g (by decide +kernel))) (fun X hk g => (g_name g (by decide +kernel))) (fun X hk g => s_ifs0) (fun X hk g => (s_ix g.units rfl (s_lend g (by decide +kernel)) (s_lend g (by decide +kernel)))))))) ss_nil)
/-- place_of -/
abbrev st9 : Stmt := topS 9
def d9 : Fn := ⟨2, 2, (.cons (.ret (.op .index (.cons (.var 0) (.cons (.lend 1) .nil)))) .nil)⟩
theorem sc9 : FnScope ["row", "thing"] ["row", "thing"] (defScope st9) := ⟨rfl, rfl, rfl, by decide +kernel, rfl, by decide +kernel, by decide +kernel⟩
theorem b9 (X : Cx) (W : Wd) (lk : List Nat) (hn : W.name = nmF) (g : GX X W ["row", "thing"] (defScope st9) ["row", "thing"]) : PSs X (defBody st9) (tSs W X.K lk d9.body) :=
  (ss_cons (s_ret (s_index g rfl rfl rfl rfl (s_a rfl (s_name g (by decide +kernel))) (s_lend g (by decide +kernel)))) ss_nil)
/-- _law_pick -/
abbrev st10 : Stmt := topS 12
def d10 : Fn := ⟨2, 4, (.cons (.whl (.and (.tru (.op .gt (.cons (.lend 1) (.cons (.con (.int 1)) .nil)))) (.and (.tru (.op .lt (.cons (.fld 0 .left) (.cons (.con (.int 2)) .nil)))) (.tru (.op .gt (.cons (.clen 0) (.cons (.con (.int 0)) .nil)))))) (.cons (.sfld 0 .left (.cpop 0)) .nil)) (.cons (.asg (.tname 2) (.fld 0 .left)) (.cons (.if_ (.or (.tru (.op .lt (.cons (.lend 1) (.cons (.con (.int 2)) .nil)))) (.tru (.op .gt (.cons (.lend 2) (.cons (.con (.int 1)) .nil))))) (.cons (.sfld 0 .left (.op .fdiv (.cons (.lend 2) (.cons (.op .max2 (.cons (.con (.int 1)) (.cons (.lend 1) .nil))) .nil)))) (.cons (.ret (.op .mod (.cons (.op .int (.cons (.lend 2) .nil)) (.cons (.op .max2 (.cons (.con (.int 1)) (.cons (.lend 1) .nil))) .nil)))) .nil)) .nil) (.cons (.sfld 0 .turn (.op .add (.cons (.fld 0 .turn) (.cons (.con (.int 1)) .nil)))) (.cons (.asg (.tname 3) (.op .mod (.cons (.op .int (.cons (.op .add (.cons (.fld 0 .mixed) (.cons (.op .mul (.cons (.fld 0 .turn) (.cons (.con (.int 104729)) .nil))) .nil))) .nil)) (.cons (.con (.int 998244353)) .nil)))) (.cons (.asg (.tname 3) (.op .mod (.cons (.op .int (.cons (.op .add (.cons (.op .mul (.cons (.lend 3) (.cons (.lend 3) .nil))) (.cons (.op .mul (.cons (.fld 0 .turn) (.cons (.con (.int 17)) .nil))) .nil))) .nil)) (.cons (.con (.int 2147483647)) .nil)))) (.cons (.sfld 0 .mixed (.var 3)) (.cons (.ret (.op .mod (.cons (.op .int (.cons (.op .fdiv (.cons (.lend 3) (.cons (.con (.int 16)) .nil))) .nil)) (.cons (.lend 1) .nil)))) .nil))))))))⟩
theorem sc10 : FnScope ["source", "many", "left", "mixed"] ["source", "many"] (defScope st10) := ⟨rfl, rfl, rfl, by decide +kernel, rfl, by decide +kernel, by decide +kernel⟩
theorem b10 (X : Cx) (W : Wd) (lk : List Nat) (hn : W.name = nmF) (g : GX X W ["source", "many", "left", "mixed"] (defScope st10) ["source", "many", "left", "mixed"]) : PSs X (defBody st10) (tSs W X.K lk d10.body) :=
  (ss_cons (s_while g (PW.pt (s_wand (s_tcmp g.units rfl (s_lend g (by decide +kernel)) (s_a rfl s_cint) rfl) (s_wand (s_tcmp g.units rfl (s_a rfl (s_fld g (by decide +kernel) rfl)) (s_a rfl s_cint) rfl) (s_wone_and (s_tcmp g.units rfl (s_a rfl (s_clen g (by decide +kernel) (by decide +kernel))) (s_a rfl s_cint) rfl))))) (ss_cons (s_sfld g (by decide +kernel) rfl rfl (s_cpop g (by decide +kernel) rfl)) ss_nil)) (ss_cons (s_asg rfl rfl rfl (gp_name g (by decide +kernel)) (s_fld g (by decide +kernel) rfl)) (ss_cons (s_if (PW.pt (s_wor (s_tcmp g.units rfl (s_lend g (by decide +kernel)) (s_a rfl s_cint) rfl) (s_wone_or (s_tcmp g.units rfl (s_lend g (by decide +kernel)) (s_a rfl s_cint) rfl)))) (ss_cons (s_sfld g (by decide +kernel) rfl rfl (s_bin rfl (s_lend g (by decide +kernel)) (s_a rfl (s_max g (by decide +kernel) rfl rfl (s_a rfl s_cint) (s_lend g (by decide +kernel)))))) (ss_cons (s_ret (s_bin rfl (s_a rfl (s_int g (by decide +kernel) rfl (s_lend g (by decide +kernel)))) (s_a rfl (s_max g (by decide +kernel) rfl rfl (s_a rfl s_cint) (s_lend g (by decide +kernel)))))) ss_nil)) ss_nil) (ss_cons (s_sfld g (by decide +kernel) rfl rfl (s_bin rfl (s_a rfl (s_fld g (by decide +kernel) rfl)) (s_a rfl s_cint))) (ss_cons (s_asg rfl rfl rfl (gp_name g (by decide +kernel)) (s_bin rfl (s_a rfl (s_int g (by decide +kernel) rfl (s_a rfl (s_bin rfl (s_a rfl (s_fld g (by decide +kernel) rfl)) (s_a rfl (s_bin rfl (s_a rfl (s_fld g (by decide +kernel) rfl)) (s_a rfl s_cint))))))) (s_a rfl s_cint))) (ss_cons (s_asg rfl rfl rfl (gp_name g (by decide +kernel)) (s_bin rfl (s_a rfl (s_int g (by decide +kernel) rfl (s_a rfl (s_bin rfl (s_a rfl (s_bin rfl (s_lend g (by decide +kernel)) (s_lend g (by decide +kernel)))) (s_a rfl (s_bin rfl (s_a rfl (s_fld g (by decide +kernel) rfl)) (s_a rfl s_cint))))))) (s_a rfl s_cint))) (ss_cons (s_sfld g (by decide +kernel) rfl rfl (s_name g (by decide +kernel))) (ss_cons (s_ret (s_bin rfl (s_a rfl (s_int g (by decide +kernel) rfl (s_a rfl (s_bin rfl (s_lend g (by decide +kernel)) (s_a rfl s_cint))))) (s_lend g (by decide +kernel)))) ss_nil))))))))
/-- _law_of -/
abbrev st11 : Stmt := topS 13
def d11 : Fn := ⟨2, 2, (.cons (.ret (.op .ix (.cons (.lend 1) (.cons (.call 10 (.cons (.var 0) (.cons (.op .len (.cons (.lend 1) .nil)) .nil))) .nil)))) .nil)⟩
theorem sc11 : FnScope ["source", "some"] ["source", "some"] (defScope st11) := ⟨rfl, rfl, rfl, by decide +kernel, rfl, by decide +kernel, by decide +kernel⟩
theorem b11 (X : Cx) (W : Wd) (lk : List Nat) (hn : W.name = nmF) (g : GX X W ["source", "some"] (defScope st11) ["source", "some"]) : PSs X (defBody st11) (tSs W X.K lk d11.body) :=
  (ss_cons (s_ret (s_ix g.units rfl (s_lend g (by decide +kernel)) (s_a rfl (s_call g (f := 10) (by rw [hn]; rfl) (by decide +kernel) rfl (s_gcons rfl rfl (s_name g (by decide +kernel)) (s_gcons rfl rfl (s_len g (by decide +kernel) rfl (s_lend g (by decide +kernel))) s_gnil)))))) ss_nil)
/-- _law_mixed -/
abbrev st12 : Stmt := topS 14
def d12 : Fn := ⟨2, 4, (.cons (.asg (.tname 2) (.op .list (.cons (.lend 1) .nil))) (.cons (.ret (.comp [3] (.irng1 (.op .len (.cons (.lend 2) .nil))) (.tname 3) .yes (.pop 2 (.call 10 (.cons (.var 0) (.cons (.op .len (.cons (.lend 2) .nil)) .nil)))))) .nil))⟩
theorem sc12 : FnScope ["source", "things", "rest", "lap"] ["source", "things"] (defScope st12) := ⟨rfl, rfl, rfl, by decide +kernel, rfl, by decide +kernel, by decide +kernel⟩
theorem b12 (X : Cx) (W : Wd) (lk : List Nat) (hn : W.name = nmF) (g : GX X W ["source", "things", "rest", "lap"] (defScope st12) ["source", "things", "rest", "lap"]) : PSs X (defBody st12) (tSs W X.K lk d12.body) :=
  (ss_cons (s_asg rfl rfl rfl (gp_name g (by decide +kernel)) (s_list g (by decide +kernel) rfl (s_lend g (by decide +kernel)))) (ss_cons (s_ret (s_comp (own := [("lap", 3)]) (fs' := []) g (by decide +kernel) (by decide +kernel) rfl (i_rng1 g (by decide +kernel) rfl (s_len g (by decide +kernel) rfl (s_lend g (by decide +kernel)))) (fun X hk g => (g_name g (by decide +kernel))) (fun X hk g => s_ifs0) (fun X hk g => (s_pop g (by decide +kernel) rfl rfl (s_call g (f := 10) (by rw [hn]; rfl) (by decide +kernel) rfl (s_gcons rfl rfl (s_name g (by decide +kernel)) (s_gcons rfl rfl (s_len g (by decide +kernel) rfl (s_lend g (by decide +kernel))) s_gnil))))))) ss_nil))
/-- _law_row -/
abbrev st13 : Stmt := topS 15
def d13 : Fn := ⟨2, 6, (.cons (.par (.cons (.tname 2) (.cons (.tname 3) .nil)) (.cons (.call 10 (.cons (.var 0) (.cons (.con (.int 4)) .nil))) (.cons (.op .lstR1 (.cons (.lend 1) .nil)) .nil))) (.cons (.if_ (.tru (.op .lt (.cons (.lend 2) (.cons (.con (.int 2)) .nil)))) (.cons (.ret (.op .tuple (.cons (.call 12 (.cons (.var 0) (.cons (.var 3) .nil))) .nil))) .nil) .nil) (.cons (.asg (.tname 3) (.ite (.tru (.op .eq (.cons (.lend 2) (.cons (.con (.int 3)) .nil)))) (.op .rev (.cons (.lend 3) .nil)) (.mv 3))) (.cons (.for_ (.irng1 (.op .mul (.cons (.call 10 (.cons (.var 0) (.cons (.con (.int 5)) .nil))) (.cons (.op .int (.cons (.op .gt (.cons (.lend 1) (.cons (.con (.int 1)) .nil))) .nil)) .nil)))) (.tname 4) (.cons (.asg (.tname 5) (.call 10 (.cons (.var 0) (.cons (.op .sub (.cons (.lend 1) (.cons (.con (.int 1)) .nil))) .nil)))) (.cons (.par (.cons (.tsub 3 (.var 5)) (.cons (.tsub 3 (.op .add (.cons (.lend 5) (.cons (.con (.int 1)) .nil)))) .nil)) (.cons (.op .ix (.cons (.lend 3) (.cons (.op .add (.cons (.lend 5) (.cons (.con (.int 1)) .nil))) .nil))) (.cons (.op .ix (.cons (.lend 3) (.cons (.lend 5) .nil))) .nil))) .nil))) (.cons (.ret (.op .tuple (.cons (.lend 3) .nil))) .nil)))))⟩
theorem sc13 : FnScope ["source", "n", "way", "found", "lap", "k"] ["source", "n"] (defScope st13) := ⟨rfl, rfl, rfl, by decide +kernel, rfl, by decide +kernel, by decide +kernel⟩
theorem b13 (X : Cx) (W : Wd) (lk : List Nat) (hn : W.name = nmF) (g : GX X W ["source", "n", "way", "found", "lap", "k"] (defScope st13) ["source", "n", "way", "found", "lap", "k"]) : PSs X (defBody st13) (tSs W X.K lk d13.body) :=
  (ss_cons (s_par2 g (by decide +kernel) (by decide +kernel) (by decide) (by decide +kernel) (by decide +kernel) (sw2 g rfl (by decide +kernel) (by decide +kernel) (by decide +kernel) rfl rfl rfl (by decide +kernel) (by decide +kernel)) (s_ccons rfl (s_call g (f := 10) (by rw [hn]; rfl) (by decide +kernel) rfl (s_gcons rfl rfl (s_name g (by decide +kernel)) (s_gcons rfl rfl s_cint s_gnil))) (s_ccons rfl (s_lstR1 g (by decide +kernel) (by decide +kernel) rfl (s_lend g (by decide +kernel))) s_cnil))) (ss_cons (s_if (s_tcmp g.units rfl (s_lend g (by decide +kernel)) (s_a rfl s_cint) rfl) (ss_cons (s_ret (s_tuple g (by decide +kernel) rfl (s_a rfl (s_call g (f := 12) (by rw [hn]; rfl) (by decide +kernel) rfl (s_gcons rfl rfl (s_name g (by decide +kernel)) (s_gcons rfl rfl (s_name g (by decide +kernel)) s_gnil)))))) ss_nil) ss_nil) (ss_cons (s_asg rfl rfl rfl (gp_name g (by decide +kernel)) (s_ite (s_tcmp g.units rfl (s_lend g (by decide +kernel)) (s_a rfl s_cint) rfl) (s_rev (s_lend g (by decide +kernel))) (s_mov g (by decide +kernel)))) (ss_cons (s_for g rfl (i_rng1 g (by decide +kernel) rfl (s_bin rfl (s_a rfl (s_call g (f := 10) (by rw [hn]; rfl) (by decide +kernel) rfl (s_gcons rfl rfl (s_name g (by decide +kernel)) (s_gcons rfl rfl s_cint s_gnil)))) (s_a rfl (s_int g (by decide +kernel) rfl (s_a rfl (s_cmp g.units rfl (s_lend g (by decide +kernel)) (s_a rfl s_cint) rfl)))))) (g_name g (by decide +kernel)) (ss_cons (s_asg rfl rfl rfl (gp_name g (by decide +kernel)) (s_call g (f := 10) (by rw [hn]; rfl) (by decide +kernel) rfl (s_gcons rfl rfl (s_name g (by decide +kernel)) (s_gcons rfl rfl (s_bin rfl (s_lend g (by decide +kernel)) (s_a rfl s_cint)) s_gnil)))) (ss_cons (s_parD g rfl (by decide) rfl rfl sw_sub2 (gds_cons g (by decide +kernel) rfl (s_name g (by decide +kernel)) (gds_cons g (by decide +kernel) rfl (s_bin rfl (s_lend g (by decide +kernel)) (s_a rfl s_cint)) gds_nil)) (s_ccons rfl (s_ix g.units rfl (s_lend g (by decide +kernel)) (s_a rfl (s_bin rfl (s_lend g (by decide +kernel)) (s_a rfl s_cint)))) (s_ccons rfl (s_ix g.units rfl (s_lend g (by decide +kernel)) (s_lend g (by decide +kernel))) s_cnil))) ss_nil))) (ss_cons (s_ret (s_tuple g (by decide +kernel) rfl (s_lend g (by decide +kernel)))) ss_nil)))))
/-- _law_word -/
abbrev st14 : Stmt := topS 16
def d14 : Fn := ⟨3, 4, (.cons (.ret (.op .tuple (.cons (.comp [3] (.irng1 (.op .mul (.cons (.call 10 (.cons (.var 0) (.cons (.op .add (.cons (.lend 2) (.cons (.con (.int 1)) .nil))) .nil))) (.cons (.op .int (.cons (.op .gt (.cons (.lend 1) (.cons (.con (.int 1)) .nil))) .nil)) .nil)))) (.tname 3) .yes (.call 10 (.cons (.var 0) (.cons (.op .sub (.cons (.lend 1) (.cons (.con (.int 1)) .nil))) .nil)))) .nil))) .nil)⟩
theorem sc14 : FnScope ["source", "n", "most", "lap"] ["source", "n", "most"] (defScope st14) := ⟨rfl, rfl, rfl, by decide +kernel, rfl, by decide +kernel, by decide +kernel⟩
theorem b14 (X : Cx) (W : Wd) (lk : List Nat) (hn : W.name = nmF) (g : GX X W ["source", "n", "most", "lap"] (defScope st14) ["source", "n", "most", "lap"]) : PSs X (defBody st14) (tSs W X.K lk d14.body) :=
  (ss_cons (s_ret (s_tuple g (by decide +kernel) rfl (s_a rfl (s_comp (own := [("lap", 3)]) (fs' := []) g (by decide +kernel) (by decide +kernel) rfl (i_rng1 g (by decide +kernel) rfl (s_bin rfl (s_a rfl (s_call g (f := 10) (by rw [hn]; rfl) (by decide +kernel) rfl (s_gcons rfl rfl (s_name g (by decide +kernel)) (s_gcons rfl rfl (s_bin rfl (s_lend g (by decide +kernel)) (s_a rfl s_cint)) s_gnil)))) (s_a rfl (s_int g (by decide +kernel) rfl (s_a rfl (s_cmp g.units rfl (s_lend g (by decide +kernel)) (s_a rfl s_cint) rfl)))))) (fun X hk g => (g_name g (by decide +kernel))) (fun X hk g => s_ifs0) (fun X hk g => (s_call g (f := 10) (by rw [hn]; rfl) (by decide +kernel) rfl (s_gcons rfl rfl (s_name g (by decide +kernel)) (s_gcons rfl rfl (s_bin rfl (s_lend g (by decide +kernel)) (s_a rfl s_cint)) s_gnil)))))))) ss_nil)
/-- _law_led -/
abbrev st15 : Stmt := topS 17
def d15 : Fn := ⟨2, 4, (.cons (.asg (.tname 2) (.op .list (.cons (.lend 0) .nil))) (.cons (.for_ (.iseq (.var 1)) (.tname 3) (.cons (.asg (.tname 2) (.op .add (.cons (.op .add (.cons (.op .slHi (.cons (.lend 2) (.cons (.var 3) .nil))) (.cons (.lst (.cons (.op .ix (.cons (.lend 2) (.cons (.op .add (.cons (.lend 3) (.cons (.con (.int 1)) .nil))) .nil))) (.cons (.op .ix (.cons (.lend 2) (.cons (.lend 3) .nil))) .nil))) .nil))) (.cons (.op .slLo (.cons (.lend 2) (.cons (.op .add (.cons (.lend 3) (.cons (.con (.int 2)) .nil))) .nil))) .nil)))) .nil)) (.cons (.ret (.op .tuple (.cons (.lend 2) .nil))) .nil)))⟩
theorem sc15 : FnScope ["row", "word", "found", "k"] ["row", "word"] (defScope st15) := ⟨rfl, rfl, rfl, by decide +kernel, rfl, by decide +kernel, by decide +kernel⟩
theorem b15 (X : Cx) (W : Wd) (lk : List Nat) (hn : W.name = nmF) (g : GX X W ["row", "word", "found", "k"] (defScope st15) ["row", "word", "found", "k"]) : PSs X (defBody st15) (tSs W X.K lk d15.body) :=
  (ss_cons (s_asg rfl rfl rfl (gp_name g (by decide +kernel)) (s_list g (by decide +kernel) rfl (s_lend g (by decide +kernel)))) (ss_cons (s_for g rfl (i_seq rfl (s_name g (by decide +kernel))) (g_name g (by decide +kernel)) (ss_cons (s_asg rfl rfl rfl (gp_name g (by decide +kernel)) (s_bin rfl (s_a rfl (s_bin rfl (s_a rfl (s_slHi (s_lend g (by decide +kernel)) (s_a rfl (s_name g (by decide +kernel))))) (s_a rfl (s_lst (s_dcons rfl (s_ix g.units rfl (s_lend g (by decide +kernel)) (s_a rfl (s_bin rfl (s_lend g (by decide +kernel)) (s_a rfl s_cint)))) (s_dcons rfl (s_ix g.units rfl (s_lend g (by decide +kernel)) (s_lend g (by decide +kernel))) s_dnil)))))) (s_a rfl (s_slLo (s_lend g (by decide +kernel)) (s_a rfl (s_bin rfl (s_lend g (by decide +kernel)) (s_a rfl s_cint))))))) ss_nil)) (ss_cons (s_ret (s_tuple g (by decide +kernel) rfl (s_lend g (by decide +kernel)))) ss_nil)))
/-- _law_behind -/
abbrev st16 : Stmt := topS 18
def d16 : Fn := ⟨2, 3, (.cons (.ret (.op .tuple (.cons (.comp [2] (.iseq (.var 1)) (.tname 2) .yes (.op .ix (.cons (.lend 0) (.cons (.lend 2) .nil)))) .nil))) .nil)⟩
theorem sc16 : FnScope ["one", "other", "thing"] ["one", "other"] (defScope st16) := ⟨rfl, rfl, rfl, by decide +kernel, rfl, by decide +kernel, by decide +kernel⟩
theorem b16 (X : Cx) (W : Wd) (lk : List Nat) (hn : W.name = nmF) (g : GX X W ["one", "other", "thing"] (defScope st16) ["one", "other", "thing"]) : PSs X (defBody st16) (tSs W X.K lk d16.body) :=
  (ss_cons (s_ret (s_tuple g (by decide +kernel) rfl (s_a rfl (s_comp (own := [("thing", 2)]) (fs' := []) g (by decide +kernel) (by decide +kernel) rfl (i_seq rfl (s_name g (by decide +kernel))) (fun X hk g => (g_name g (by decide +kernel))) (fun X hk g => s_ifs0) (fun X hk g => (s_ix g.units rfl (s_lend g (by decide +kernel)) (s_lend g (by decide +kernel)))))))) ss_nil)
abbrev stS : Stmt := topS 11
abbrev stL : Stmt := topS 19
theorem scS : FnScope ["script", "mixed", "cell"] ["script"] (defScope stS) := ⟨rfl, rfl, rfl, by decide +kernel, rfl, by decide +kernel, by decide +kernel⟩
theorem bS (X : Cx) (W : Wd) (g : GX X W ["script", "mixed", "cell"] (defScope stS) ["script", "mixed", "cell"]) : PSs X (defBody stS) (tSrc X.K) :=
  src_body g (by decide +kernel) (by decide +kernel) (by decide +kernel) (by decide +kernel) (by decide +kernel) (by decide +kernel) (by decide +kernel) (by decide +kernel) (by decide +kernel) (by decide +kernel)
def dL : IR := (.cons (.for_ (.irng1 (.con (.int 5))) (.tname 2) (.cons (.asg (.tname 3) (.op .add (.cons (.con (.int 1)) (.cons (.call 10 (.cons (.var 1) (.cons (.op .ix (.cons (.lst (.cons (.con (.int 3)) (.cons (.con (.int 5)) (.cons (.con (.int 8)) (.cons (.con (.int 12)) (.cons (.con (.int 12)) .nil)))))) (.cons (.lend 2) .nil))) .nil))) .nil)))) (.cons (.par (.cons (.tname 4) (.cons (.tname 5) (.cons (.tname 6) (.cons (.tname 7) .nil)))) (.cons (.call 13 (.cons (.var 1) (.cons (.var 3) .nil))) (.cons (.call 13 (.cons (.var 1) (.cons (.var 3) .nil))) (.cons (.call 14 (.cons (.var 1) (.cons (.var 3) (.cons (.con (.int 66)) .nil)))) (.cons (.call 14 (.cons (.var 1) (.cons (.var 3) (.cons (.con (.int 12)) .nil)))) .nil))))) (.cons (.par (.cons (.tname 8) (.cons (.tname 9) .nil)) (.cons (.op .repr (.cons (.lst (.cons (.var 4) (.cons (.var 5) (.cons (.var 6) (.cons (.var 7) .nil))))) .nil)) (.cons (.op .tupR1 (.cons (.lend 3) .nil)) .nil))) (.cons (.if_ (.tru (.op .ne (.cons (.op .repr (.cons (.lst (.cons (.call 1 (.cons (.var 3) .nil)) (.cons (.call 2 (.cons (.var 3) .nil)) .nil))) .nil)) (.cons (.op .repr (.cons (.lst (.cons (.var 9) (.cons (.op .rev (.cons (.lend 9) .nil)) .nil))) .nil)) .nil)))) (.cons (.ret (.con (.bool false))) .nil) .nil) (.cons (.for_ (.irng1 (.op .sub (.cons (.lend 3) (.cons (.con (.int 1)) .nil)))) (.tname 10) (.cons (.if_ (.tru (.op .ne (.cons (.op .repr (.cons (.call 4 (.cons (.var 4) (.cons (.var 10) .nil))) .nil)) (.cons (.op .repr (.cons (.call 15 (.cons (.var 4) (.cons (.tup (.cons (.var 10) .nil)) .nil))) .nil)) .nil)))) (.cons (.ret (.con (.bool false))) .nil) .nil) .nil)) (.cons (.par (.cons (.tname 11) (.cons (.tname 12) .nil)) (.cons (.call 10 (.cons (.var 1) (.cons (.var 3) .nil))) (.cons (.call 10 (.cons (.var 1) (.cons (.var 3) .nil))) .nil))) (.cons (.asg (.tname 13) (.op .tuple (.cons (.comp [10] (.irng1 (.var 3)) (.tname 10) .yes (.op .ix (.cons (.lend 4) (.cons (.disg (.cons (.var 11) (.cons (.var 12) (.cons (.var 12) (.cons (.var 11) (.cons (.var 10) (.cons (.var 10) .nil))))))) .nil)))) .nil))) (.cons (.if_ (.and (.tru (.op .ne (.cons (.lend 11) (.cons (.lend 12) .nil)))) (.tru (.op .ne (.cons (.op .repr (.cons (.call 3 (.cons (.var 4) (.cons (.var 11) (.cons (.var 12) .nil)))) .nil)) (.cons (.op .repr (.cons (.lend 13) .nil)) .nil))))) (.cons (.ret (.con (.bool false))) .nil) .nil) (.cons (.asg (.tname 14) (.call 15 (.cons (.var 9) (.cons (.var 6) .nil)))) (.cons (.if_ (.tru (.op .ne (.cons (.op .repr (.cons (.lst (.cons (.call 6 (.cons (.var 3) (.cons (.var 6) .nil))) (.cons (.call 5 (.cons (.var 4) (.cons (.var 7) .nil))) (.cons (.call 5 (.cons (.var 4) (.cons (.tup .nil) .nil))) .nil)))) .nil)) (.cons (.op .repr (.cons (.lst (.cons (.var 14) (.cons (.call 15 (.cons (.var 4) (.cons (.var 7) .nil))) (.cons (.var 4) .nil)))) .nil)) .nil)))) (.cons (.ret (.con (.bool false))) .nil) .nil) (.cons (.asg (.tname 15) (.op .tuple (.cons (.comp [17] (.irng1 (.var 3)) (.tname 17) .yes (.op .ix (.cons (.comp [10] (.irng1 (.var 3)) (.tname 10) (.tru (.op .eq (.cons (.op .ix (.cons (.lend 4) (.cons (.lend 10) .nil))) (.cons (.lend 17) .nil)))) (.var 10)) (.cons (.con (.int 0)) .nil)))) .nil))) (.cons (.asg (.tname 16) (.lst (.cons (.call 7 (.cons (.var 4) .nil)) (.cons (.call 8 (.cons (.var 4) (.cons (.var 5) .nil))) (.cons (.comp [17] (.irng1 (.var 3)) (.tname 17) .yes (.call 9 (.cons (.var 4) (.cons (.var 17) .nil)))) .nil))))) (.cons (.if_ (.tru (.op .ne (.cons (.op .repr (.cons (.lend 16) .nil)) (.cons (.op .repr (.cons (.lst (.cons (.var 15) (.cons (.call 16 (.cons (.var 4) (.cons (.var 5) .nil))) (.cons (.op .list (.cons (.lend 15) .nil)) .nil)))) .nil)) .nil)))) (.cons (.ret (.con (.bool false))) .nil) .nil) (.cons (.if_ (.tru (.op .ne (.cons (.op .repr (.cons (.lst (.cons (.call 8 (.cons (.var 4) (.cons (.var 15) .nil))) (.cons (.call 8 (.cons (.var 15) (.cons (.var 4) .nil))) (.cons (.call 6 (.cons (.var 3) (.cons (.op .rev (.cons (.lend 6) .nil)) .nil))) .nil)))) .nil)) (.cons (.op .repr (.cons (.lst (.cons (.var 9) (.cons (.var 9) (.cons (.call 7 (.cons (.var 14) .nil)) .nil)))) .nil)) .nil)))) (.cons (.ret (.con (.bool false))) .nil) .nil) (.cons (.if_ (.tru (.op .ne (.cons (.op .repr (.cons (.call 6 (.cons (.var 3) (.cons (.op .add (.cons (.op .slHi (.cons (.lend 6) (.cons (.con (.int 54)) .nil))) (.cons (.lend 7) .nil))) .nil))) .nil)) (.cons (.op .repr (.cons (.call 8 (.cons (.call 15 (.cons (.var 9) (.cons (.op .slHi (.cons (.lend 6) (.cons (.con (.int 54)) .nil))) .nil))) (.cons (.call 6 (.cons (.var 3) (.cons (.var 7) .nil))) .nil))) .nil)) .nil)))) (.cons (.ret (.con (.bool false))) .nil) .nil) (.cons (.if_ (.tru (.op .ne (.cons (.op .repr (.cons (.lst (.cons (.var 4) (.cons (.var 5) (.cons (.var 6) (.cons (.var 7) .nil))))) .nil)) (.cons (.lend 8) .nil)))) (.cons (.ret (.con (.bool false))) .nil) .nil) .nil))))))))))))))))) (.cons (.asg (.tname 16) (.lst (.cons (.call 6 (.cons (.con (.int 3)) (.cons (.tup (.cons (.con (.int 0)) (.cons (.con (.int 1)) .nil))) .nil))) (.cons (.call 7 (.cons (.tup (.cons (.con (.int 1)) (.cons (.con (.int 2)) (.cons (.con (.int 0)) .nil)))) .nil)) (.cons (.call 6 (.cons (.con (.int 3)) (.cons (.tup (.cons (.con (.int 1)) (.cons (.con (.int 0)) .nil))) .nil))) (.cons (.call 1 (.cons (.con (.int 1)) .nil)) (.cons (.call 2 (.cons (.con (.int 1)) .nil)) (.cons (.call 6 (.cons (.con (.int 1)) (.cons (.tup .nil) .nil))) .nil)))))))) (.cons (.ret (.op .eq (.cons (.op .repr (.cons (.lend 16) .nil)) (.cons (.op .repr (.cons (.lst (.cons (.tup (.cons (.con (.int 1)) (.cons (.con (.int 2)) (.cons (.con (.int 0)) .nil)))) (.cons (.tup (.cons (.con (.int 2)) (.cons (.con (.int 0)) (.cons (.con (.int 1)) .nil)))) (.cons (.tup (.cons (.con (.int 2)) (.cons (.con (.int 0)) (.cons (.con (.int 1)) .nil)))) (.cons (.tup (.cons (.con (.int 0)) .nil)) (.cons (.tup (.cons (.con (.int 0)) .nil)) (.cons (.tup (.cons (.con (.int 0)) .nil)) .nil))))))) .nil)) .nil)))) .nil)))
theorem scL : FnScope ["script", "source", "lap", "n", "one", "other", "word", "late", "kept", "first", "k", "i", "j", "due", "mine", "back", "told", "thing"] ["script"] (defScope stL) := ⟨rfl, rfl, rfl, by decide +kernel, rfl, by decide +kernel, by decide +kernel⟩
theorem bL (X : Cx) (W : Wd) (hn : W.name = nmF) (g : GX X W ["script", "source", "lap", "n", "one", "other", "word", "late", "kept", "first", "k", "i", "j", "due", "mine", "back", "told", "thing"] (defScope stL) ["script", "source", "lap", "n", "one", "other", "word", "late", "kept", "first", "k", "i", "j", "due", "mine", "back", "told", "thing"]) : PSs X ((defBody stL).drop 1) (tSs W X.K [] dL) :=
  (ss_cons (s_for g rfl (i_rng1 g (by decide +kernel) rfl s_cint) (g_name g (by decide +kernel)) (ss_cons (s_asg rfl rfl rfl (gp_name g (by decide +kernel)) (s_bin rfl (s_a rfl s_cint) (s_a rfl (s_call g (f := 10) (by rw [hn]; rfl) (by decide +kernel) rfl (s_gcons rfl rfl (s_name g (by decide +kernel)) (s_gcons rfl rfl (s_ix g.units rfl (s_a rfl (s_lst (s_dcons rfl s_cint (s_dcons rfl s_cint (s_dcons rfl s_cint (s_dcons rfl s_cint (s_dcons rfl s_cint s_dnil))))))) (s_lend g (by decide +kernel))) s_gnil)))))) (ss_cons (s_parG g rfl (by decide) rfl (sw_many rfl) (gps_cons g (by decide +kernel) (gps_cons g (by decide +kernel) (gps_cons g (by decide +kernel) (gps_cons g (by decide +kernel) gps_nil)))) (s_ccons rfl (s_call g (f := 13) (by rw [hn]; rfl) (by decide +kernel) rfl (s_gcons rfl rfl (s_name g (by decide +kernel)) (s_gcons rfl rfl (s_name g (by decide +kernel)) s_gnil))) (s_ccons rfl (s_call g (f := 13) (by rw [hn]; rfl) (by decide +kernel) rfl (s_gcons rfl rfl (s_name g (by decide +kernel)) (s_gcons rfl rfl (s_name g (by decide +kernel)) s_gnil))) (s_ccons rfl (s_call g (f := 14) (by rw [hn]; rfl) (by decide +kernel) rfl (s_gcons rfl rfl (s_name g (by decide +kernel)) (s_gcons rfl rfl (s_name g (by decide +kernel)) (s_gcons rfl rfl s_cint s_gnil)))) (s_ccons rfl (s_call g (f := 14) (by rw [hn]; rfl) (by decide +kernel) rfl (s_gcons rfl rfl (s_name g (by decide +kernel)) (s_gcons rfl rfl (s_name g (by decide +kernel)) (s_gcons rfl rfl s_cint s_gnil)))) s_cnil))))) (ss_cons (s_par2 g (by decide +kernel) (by decide +kernel) (by decide) (by decide +kernel) (by decide +kernel) (sw2 g rfl (by decide +kernel) (by decide +kernel) (by decide +kernel) rfl rfl rfl (by decide +kernel) (by decide +kernel)) (s_ccons rfl (s_repr g (by decide +kernel) rfl (s_a rfl (s_lst (s_dcons rfl (s_name g (by decide +kernel)) (s_dcons rfl (s_name g (by decide +kernel)) (s_dcons rfl (s_name g (by decide +kernel)) (s_dcons rfl (s_name g (by decide +kernel)) s_dnil))))))) (s_ccons rfl (s_tupR1 g (by decide +kernel) (by decide +kernel) rfl (s_lend g (by decide +kernel))) s_cnil))) (ss_cons (s_if (s_tcmp g.units rfl (s_a rfl (s_repr g (by decide +kernel) rfl (s_a rfl (s_lst (s_dcons rfl (s_call g (f := 1) (by rw [hn]; rfl) (by decide +kernel) rfl (s_gcons rfl rfl (s_name g (by decide +kernel)) s_gnil)) (s_dcons rfl (s_call g (f := 2) (by rw [hn]; rfl) (by decide +kernel) rfl (s_gcons rfl rfl (s_name g (by decide +kernel)) s_gnil)) s_dnil)))))) (s_a rfl (s_repr g (by decide +kernel) rfl (s_a rfl (s_lst (s_dcons rfl (s_name g (by decide +kernel)) (s_dcons rfl (s_rev (s_lend g (by decide +kernel))) s_dnil)))))) rfl) (ss_cons (s_ret s_cbl) ss_nil) ss_nil) (ss_cons (s_for g rfl (i_rng1 g (by decide +kernel) rfl (s_bin rfl (s_lend g (by decide +kernel)) (s_a rfl s_cint))) (g_name g (by decide +kernel)) (ss_cons (s_if (s_tcmp g.units rfl (s_a rfl (s_repr g (by decide +kernel) rfl (s_a rfl (s_call g (f := 4) (by rw [hn]; rfl) (by decide +kernel) rfl (s_gcons rfl rfl (s_name g (by decide +kernel)) (s_gcons rfl rfl (s_name g (by decide +kernel)) s_gnil)))))) (s_a rfl (s_repr g (by decide +kernel) rfl (s_a rfl (s_call g (f := 15) (by rw [hn]; rfl) (by decide +kernel) rfl (s_gcons rfl rfl (s_name g (by decide +kernel)) (s_gcons rfl rfl (s_tup (s_dcons rfl (s_name g (by decide +kernel)) s_dnil)) s_gnil)))))) rfl) (ss_cons (s_ret s_cbl) ss_nil) ss_nil) ss_nil)) (ss_cons (s_parG g rfl (by decide) rfl (sw2c g (by decide +kernel)) (gps_cons g (by decide +kernel) (gps_cons g (by decide +kernel) gps_nil)) (s_ccons rfl (s_call g (f := 10) (by rw [hn]; rfl) (by decide +kernel) rfl (s_gcons rfl rfl (s_name g (by decide +kernel)) (s_gcons rfl rfl (s_name g (by decide +kernel)) s_gnil))) (s_ccons rfl (s_call g (f := 10) (by rw [hn]; rfl) (by decide +kernel) rfl (s_gcons rfl rfl (s_name g (by decide +kernel)) (s_gcons rfl rfl (s_name g (by decide +kernel)) s_gnil))) s_cnil))) (ss_cons (s_asg rfl rfl rfl (gp_name g (by decide +kernel)) (s_tuple g (by decide +kernel) rfl (s_a rfl (s_comp (own := [("k", 10)]) (fs' := []) g (by decide +kernel) (by decide +kernel) rfl (i_rng1 g (by decide +kernel) rfl (s_name g (by decide +kernel))) (fun X hk g => (g_name g (by decide +kernel))) (fun X hk g => s_ifs0) (fun X hk g => (s_ix g.units rfl (s_lend g (by decide +kernel)) (s_a rfl (s_disg2 g rfl rfl rfl (s_name g (by decide +kernel)) (s_name g (by decide +kernel)) (s_name g (by decide +kernel)) (s_name g (by decide +kernel)) (s_name g (by decide +kernel)) (s_name g (by decide +kernel)))))))))) (ss_cons (s_if (PW.pt (s_wand (s_tcmp g.units rfl (s_lend g (by decide +kernel)) (s_lend g (by decide +kernel)) rfl) (s_wone_and (s_tcmp g.units rfl (s_a rfl (s_repr g (by decide +kernel) rfl (s_a rfl (s_call g (f := 3) (by rw [hn]; rfl) (by decide +kernel) rfl (s_gcons rfl rfl (s_name g (by decide +kernel)) (s_gcons rfl rfl (s_name g (by decide +kernel)) (s_gcons rfl rfl (s_name g (by decide +kernel)) s_gnil))))))) (s_a rfl (s_repr g (by decide +kernel) rfl (s_lend g (by decide +kernel)))) rfl)))) (ss_cons (s_ret s_cbl) ss_nil) ss_nil) (ss_cons (s_asg rfl rfl rfl (gp_name g (by decide +kernel)) (s_call g (f := 15) (by rw [hn]; rfl) (by decide +kernel) rfl (s_gcons rfl rfl (s_name g (by decide +kernel)) (s_gcons rfl rfl (s_name g (by decide +kernel)) s_gnil)))) (ss_cons (s_if (s_tcmp g.units rfl (s_a rfl (s_repr g (by decide +kernel) rfl (s_a rfl (s_lst (s_dcons rfl (s_call g (f := 6) (by rw [hn]; rfl) (by decide +kernel) rfl (s_gcons rfl rfl (s_name g (by decide +kernel)) (s_gcons rfl rfl (s_name g (by decide +kernel)) s_gnil))) (s_dcons rfl (s_call g (f := 5) (by rw [hn]; rfl) (by decide +kernel) rfl (s_gcons rfl rfl (s_name g (by decide +kernel)) (s_gcons rfl rfl (s_name g (by decide +kernel)) s_gnil))) (s_dcons rfl (s_call g (f := 5) (by rw [hn]; rfl) (by decide +kernel) rfl (s_gcons rfl rfl (s_name g (by decide +kernel)) (s_gcons rfl rfl (s_tup s_dnil) s_gnil))) s_dnil))))))) (s_a rfl (s_repr g (by decide +kernel) rfl (s_a rfl (s_lst (s_dcons rfl (s_name g (by decide +kernel)) (s_dcons rfl (s_call g (f := 15) (by rw [hn]; rfl) (by decide +kernel) rfl (s_gcons rfl rfl (s_name g (by decide +kernel)) (s_gcons rfl rfl (s_name g (by decide +kernel)) s_gnil))) (s_dcons rfl (s_name g (by decide +kernel)) s_dnil))))))) rfl) (ss_cons (s_ret s_cbl) ss_nil) ss_nil) (ss_cons (s_asg rfl rfl rfl (gp_name g (by decide +kernel)) (s_tuple g (by decide +kernel) rfl (s_a rfl (s_comp (own := [("thing", 17)]) (fs' := ["thing"]) g (by decide +kernel) (by decide +kernel) rfl (i_rng1 g (by decide +kernel) rfl (s_name g (by decide +kernel))) (fun X hk g => (g_name g (by decide +kernel))) (fun X hk g => s_ifs0) (fun X hk g => (s_ix g.units rfl (s_a rfl (s_comp (own := [("k", 10)]) (fs' := []) g (by decide +kernel) (by decide +kernel) rfl (i_rng1 g (by decide +kernel) rfl (s_name g (by decide +kernel))) (fun X hk g => (g_name g (by decide +kernel))) (fun X hk g => (s_ifs1 (s_tcmp g.units rfl (s_a rfl (s_ix g.units rfl (s_lend g (by decide +kernel)) (s_lend g (by decide +kernel)))) (s_lend g (by decide +kernel)) rfl))) (fun X hk g => (s_name g (by decide +kernel))))) (s_a rfl s_cint))))))) (ss_cons (s_asg rfl rfl rfl (gp_name g (by decide +kernel)) (s_lst (s_dcons rfl (s_call g (f := 7) (by rw [hn]; rfl) (by decide +kernel) rfl (s_gcons rfl rfl (s_name g (by decide +kernel)) s_gnil)) (s_dcons rfl (s_call g (f := 8) (by rw [hn]; rfl) (by decide +kernel) rfl (s_gcons rfl rfl (s_name g (by decide +kernel)) (s_gcons rfl rfl (s_name g (by decide +kernel)) s_gnil))) (s_dcons rfl (s_comp (own := [("thing", 17)]) (fs' := []) g (by decide +kernel) (by decide +kernel) rfl (i_rng1 g (by decide +kernel) rfl (s_name g (by decide +kernel))) (fun X hk g => (g_name g (by decide +kernel))) (fun X hk g => s_ifs0) (fun X hk g => (s_call g (f := 9) (by rw [hn]; rfl) (by decide +kernel) rfl (s_gcons rfl rfl (s_name g (by decide +kernel)) (s_gcons rfl rfl (s_name g (by decide +kernel)) s_gnil))))) s_dnil))))) (ss_cons (s_if (s_tcmp g.units rfl (s_a rfl (s_repr g (by decide +kernel) rfl (s_lend g (by decide +kernel)))) (s_a rfl (s_repr g (by decide +kernel) rfl (s_a rfl (s_lst (s_dcons rfl (s_name g (by decide +kernel)) (s_dcons rfl (s_call g (f := 16) (by rw [hn]; rfl) (by decide +kernel) rfl (s_gcons rfl rfl (s_name g (by decide +kernel)) (s_gcons rfl rfl (s_name g (by decide +kernel)) s_gnil))) (s_dcons rfl (s_list g (by decide +kernel) rfl (s_lend g (by decide +kernel))) s_dnil))))))) rfl) (ss_cons (s_ret s_cbl) ss_nil) ss_nil) (ss_cons (s_if (s_tcmp g.units rfl (s_a rfl (s_repr g (by decide +kernel) rfl (s_a rfl (s_lst (s_dcons rfl (s_call g (f := 8) (by rw [hn]; rfl) (by decide +kernel) rfl (s_gcons rfl rfl (s_name g (by decide +kernel)) (s_gcons rfl rfl (s_name g (by decide +kernel)) s_gnil))) (s_dcons rfl (s_call g (f := 8) (by rw [hn]; rfl) (by decide +kernel) rfl (s_gcons rfl rfl (s_name g (by decide +kernel)) (s_gcons rfl rfl (s_name g (by decide +kernel)) s_gnil))) (s_dcons rfl (s_call g (f := 6) (by rw [hn]; rfl) (by decide +kernel) rfl (s_gcons rfl rfl (s_name g (by decide +kernel)) (s_gcons rfl rfl (s_rev (s_lend g (by decide +kernel))) s_gnil))) s_dnil))))))) (s_a rfl (s_repr g (by decide +kernel) rfl (s_a rfl (s_lst (s_dcons rfl (s_name g (by decide +kernel)) (s_dcons rfl (s_name g (by decide +kernel)) (s_dcons rfl (s_call g (f := 7) (by rw [hn]; rfl) (by decide +kernel) rfl (s_gcons rfl rfl (s_name g (by decide +kernel)) s_gnil)) s_dnil))))))) rfl) (ss_cons (s_ret s_cbl) ss_nil) ss_nil) (ss_cons (s_if (s_tcmp g.units rfl (s_a rfl (s_repr g (by decide +kernel) rfl (s_a rfl (s_call g (f := 6) (by rw [hn]; rfl) (by decide +kernel) rfl (s_gcons rfl rfl (s_name g (by decide +kernel)) (s_gcons rfl rfl (s_bin rfl (s_a rfl (s_slHi (s_lend g (by decide +kernel)) (s_a rfl s_cint))) (s_lend g (by decide +kernel))) s_gnil)))))) (s_a rfl (s_repr g (by decide +kernel) rfl (s_a rfl (s_call g (f := 8) (by rw [hn]; rfl) (by decide +kernel) rfl (s_gcons rfl rfl (s_call g (f := 15) (by rw [hn]; rfl) (by decide +kernel) rfl (s_gcons rfl rfl (s_name g (by decide +kernel)) (s_gcons rfl rfl (s_slHi (s_lend g (by decide +kernel)) (s_a rfl s_cint)) s_gnil))) (s_gcons rfl rfl (s_call g (f := 6) (by rw [hn]; rfl) (by decide +kernel) rfl (s_gcons rfl rfl (s_name g (by decide +kernel)) (s_gcons rfl rfl (s_name g (by decide +kernel)) s_gnil))) s_gnil)))))) rfl) (ss_cons (s_ret s_cbl) ss_nil) ss_nil) (ss_cons (s_if (s_tcmp g.units rfl (s_a rfl (s_repr g (by decide +kernel) rfl (s_a rfl (s_lst (s_dcons rfl (s_name g (by decide +kernel)) (s_dcons rfl (s_name g (by decide +kernel)) (s_dcons rfl (s_name g (by decide +kernel)) (s_dcons rfl (s_name g (by decide +kernel)) s_dnil)))))))) (s_lend g (by decide +kernel)) rfl) (ss_cons (s_ret s_cbl) ss_nil) ss_nil) ss_nil))))))))))))))))) (ss_cons (s_asg rfl rfl rfl (gp_name g (by decide +kernel)) (s_lst (s_dcons rfl (s_call g (f := 6) (by rw [hn]; rfl) (by decide +kernel) rfl (s_gcons rfl rfl s_cint (s_gcons rfl rfl (s_tup (s_dcons rfl s_cint (s_dcons rfl s_cint s_dnil))) s_gnil))) (s_dcons rfl (s_call g (f := 7) (by rw [hn]; rfl) (by decide +kernel) rfl (s_gcons rfl rfl (s_tup (s_dcons rfl s_cint (s_dcons rfl s_cint (s_dcons rfl s_cint s_dnil)))) s_gnil)) (s_dcons rfl (s_call g (f := 6) (by rw [hn]; rfl) (by decide +kernel) rfl (s_gcons rfl rfl s_cint (s_gcons rfl rfl (s_tup (s_dcons rfl s_cint (s_dcons rfl s_cint s_dnil))) s_gnil))) (s_dcons rfl (s_call g (f := 1) (by rw [hn]; rfl) (by decide +kernel) rfl (s_gcons rfl rfl s_cint s_gnil)) (s_dcons rfl (s_call g (f := 2) (by rw [hn]; rfl) (by decide +kernel) rfl (s_gcons rfl rfl s_cint s_gnil)) (s_dcons rfl (s_call g (f := 6) (by rw [hn]; rfl) (by decide +kernel) rfl (s_gcons rfl rfl s_cint (s_gcons rfl rfl (s_tup s_dnil) s_gnil))) s_dnil)))))))) (ss_cons (s_ret (s_cmp g.units rfl (s_a rfl (s_repr g (by decide +kernel) rfl (s_lend g (by decide +kernel)))) (s_a rfl (s_repr g (by decide +kernel) rfl (s_a rfl (s_lst (s_dcons rfl (s_tup (s_dcons rfl s_cint (s_dcons rfl s_cint (s_dcons rfl s_cint s_dnil)))) (s_dcons rfl (s_tup (s_dcons rfl s_cint (s_dcons rfl s_cint (s_dcons rfl s_cint s_dnil)))) (s_dcons rfl (s_tup (s_dcons rfl s_cint (s_dcons rfl s_cint (s_dcons rfl s_cint s_dnil)))) (s_dcons rfl (s_tup (s_dcons rfl s_cint s_dnil)) (s_dcons rfl (s_tup (s_dcons rfl s_cint s_dnil)) (s_dcons rfl (s_tup (s_dcons rfl s_cint s_dnil)) s_dnil)))))))))) rfl)) ss_nil)))
def fnsF : Nat → Option Fn
  | 1 => some d1
  | 2 => some d2
  | 3 => some d3
  | 4 => some d4
  | 5 => some d5
  | 6 => some d6
  | 7 => some d7
  | 8 => some d8
  | 9 => some d9
  | 10 => some d10
  | 11 => some d11
  | 12 => some d12
  | 13 => some d13
  | 14 => some d14
  | 15 => some d15
  | 16 => some d16
  | _ => none
def noPick : Src → Int → Option (Int × Src) := fun _ _ => none
def noGl : Nat → Option D := fun _ => none
def cl (n : Nat) : Nat → List Ga → Src → Option (Ct × Src) := callF noGl noPick fnsF n
section
variable {P : Program} {w : World} {K : PySem.W.Frag} {mg : Str → Option Value} {base : Heap}
theorem irs (f1 : DefFact K mg "plain" st1 ["n"]) (f2 : DefFact K mg "greatest" st2 ["n"]) (f3 : DefFact K mg "exchanged" st3 ["row", "i", "j"]) (f4 : DefFact K mg "swapped" st4 ["row", "k"]) (f5 : DefFact K mg "led" st5 ["row", "word"]) (f6 : DefFact K mg "row_of" st6 ["n", "word"]) (f7 : DefFact K mg "other_way" st7 ["row"]) (f8 : DefFact K mg "behind" st8 ["one", "other"]) (f9 : DefFact K mg "place_of" st9 ["row", "thing"]) (f10 : DefFact K mg "_law_pick" st10 ["source", "many"]) (f11 : DefFact K mg "_law_of" st11 ["source", "some"]) (f12 : DefFact K mg "_law_mixed" st12 ["source", "things"]) (f13 : DefFact K mg "_law_row" st13 ["source", "n"]) (f14 : DefFact K mg "_law_word" st14 ["source", "n", "most"]) (f15 : DefFact K mg "_law_led" st15 ["row", "word"]) (f16 : DefFact K mg "_law_behind" st16 ["one", "other"]) : ∀ f x, nmF f = some x → DefIr P w K mg base nmF noGl noPick fnsF f x := by
  intro f x h
  match f, h with
  | 1, h =>
    cases h
    exact ⟨⟨st1, _, _, _, d1, f1, sc1, rfl, by decide, rfl, rfl, fun X W lk _ h2 g => b1 X W lk h2 g⟩⟩
  | 2, h =>
    cases h
    exact ⟨⟨st2, _, _, _, d2, f2, sc2, rfl, by decide, rfl, rfl, fun X W lk _ h2 g => b2 X W lk h2 g⟩⟩
  | 3, h =>
    cases h
    exact ⟨⟨st3, _, _, _, d3, f3, sc3, rfl, by decide, rfl, rfl, fun X W lk _ h2 g => b3 X W lk h2 g⟩⟩
  | 4, h =>
    cases h
    exact ⟨⟨st4, _, _, _, d4, f4, sc4, rfl, by decide, rfl, rfl, fun X W lk _ h2 g => b4 X W lk h2 g⟩⟩
  | 5, h =>
    cases h
    exact ⟨⟨st5, _, _, _, d5, f5, sc5, rfl, by decide, rfl, rfl, fun X W lk _ h2 g => b5 X W lk h2 g⟩⟩
  | 6, h =>
    cases h
    exact ⟨⟨st6, _, _, _, d6, f6, sc6, rfl, by decide, rfl, rfl, fun X W lk _ h2 g => b6 X W lk h2 g⟩⟩
  | 7, h =>
    cases h
    exact ⟨⟨st7, _, _, _, d7, f7, sc7, rfl, by decide, rfl, rfl, fun X W lk _ h2 g => b7 X W lk h2 g⟩⟩
  | 8, h =>
    cases h
    exact ⟨⟨st8, _, _, _, d8, f8, sc8, rfl, by decide, rfl, rfl, fun X W lk _ h2 g => b8 X W lk h2 g⟩⟩
  | 9, h =>
    cases h
    exact ⟨⟨st9, _, _, _, d9, f9, sc9, rfl, by decide, rfl, rfl, fun X W lk _ h2 g => b9 X W lk h2 g⟩⟩
  | 10, h =>
    cases h
    exact ⟨⟨st10, _, _, _, d10, f10, sc10, rfl, by decide, rfl, rfl, fun X W lk _ h2 g => b10 X W lk h2 g⟩⟩
  | 11, h =>
    cases h
    exact ⟨⟨st11, _, _, _, d11, f11, sc11, rfl, by decide, rfl, rfl, fun X W lk _ h2 g => b11 X W lk h2 g⟩⟩
  | 12, h =>
    cases h
    exact ⟨⟨st12, _, _, _, d12, f12, sc12, rfl, by decide, rfl, rfl, fun X W lk _ h2 g => b12 X W lk h2 g⟩⟩
  | 13, h =>
    cases h
    exact ⟨⟨st13, _, _, _, d13, f13, sc13, rfl, by decide, rfl, rfl, fun X W lk _ h2 g => b13 X W lk h2 g⟩⟩
  | 14, h =>
    cases h
    exact ⟨⟨st14, _, _, _, d14, f14, sc14, rfl, by decide, rfl, rfl, fun X W lk _ h2 g => b14 X W lk h2 g⟩⟩
  | 15, h =>
    cases h
    exact ⟨⟨st15, _, _, _, d15, f15, sc15, rfl, by decide, rfl, rfl, fun X W lk _ h2 g => b15 X W lk h2 g⟩⟩
  | 16, h =>
    cases h
    exact ⟨⟨st16, _, _, _, d16, f16, sc16, rfl, by decide, rfl, rfl, fun X W lk _ h2 g => b16 X W lk h2 g⟩⟩
end
abbrev depth : Nat := 12
theorem law_mk {h : Heap} {f fa : Addr} {od an : Option Addr} {sl : Array (Option Value)} {oc kV dc pm cd ct : Value} {K : PySem.W.Frag} {mg : Str → Option Value} (X : K.In h) (G : h.Ns mainGlobals mg) (hfa : mg "law" = some (.ref fa))
    (a : PySem.W.nsIn K mainGlobals "law" = some (some (.ref f))) (l : K.lookup f = some ⟨oc, od, .func (PySem.W.fnOf "law" "law" (defArgs stL) (defBody stL) (defScope stL) .none kV dc pm an cd ct), sl⟩) (c : PySem.W.codeIn K cd "law" = true) (k : PySem.W.keepIn K (.ref f) = true) :
    ∃ fd, Fun K "law" "law" stL fa fd ∧ ∀ (s : Shared) (v : Value), BindsTo s fd ⟨[v], []⟩ [("script", v)] := by
  have e := hfa.symm.trans (PySem.W.mg_of X G a)
  cases e
  exact ⟨_, fun_mk (st := stL) l c k, fun s v => .of_eq rfl⟩
theorem main {P : Program} {w : World} {K : PySem.W.Frag} {h : Heap} {mg : Str → Option Value} {fa : Addr} (X : K.In h) (G : h.Ns mainGlobals mg)
    (f1 : DefFact K mg "plain" st1 ["n"])
    (f2 : DefFact K mg "greatest" st2 ["n"])
    (f3 : DefFact K mg "exchanged" st3 ["row", "i", "j"])
    (f4 : DefFact K mg "swapped" st4 ["row", "k"])
    (f5 : DefFact K mg "led" st5 ["row", "word"])
    (f6 : DefFact K mg "row_of" st6 ["n", "word"])
    (f7 : DefFact K mg "other_way" st7 ["row"])
    (f8 : DefFact K mg "behind" st8 ["one", "other"])
    (f9 : DefFact K mg "place_of" st9 ["row", "thing"])
    (f10 : DefFact K mg "_law_pick" st10 ["source", "many"])
    (f11 : DefFact K mg "_law_of" st11 ["source", "some"])
    (f12 : DefFact K mg "_law_mixed" st12 ["source", "things"])
    (f13 : DefFact K mg "_law_row" st13 ["source", "n"])
    (f14 : DefFact K mg "_law_word" st14 ["source", "n", "most"])
    (f15 : DefFact K mg "_law_led" st15 ["row", "word"])
    (f16 : DefFact K mg "_law_behind" st16 ["one", "other"])
    (fS : DefFact K mg "_law_source" stS ["script"]) (fL : ∃ fd, Fun K "law" "law" stL fa fd ∧ ∀ (s : Shared) (v : Value), BindsTo s fd ⟨[v], []⟩ [("script", v)])
    (z0 : PySem.W.nsIn K mainGlobals "range" = some none) (z1 : PySem.W.nsIn K mainGlobals "len" = some none) (z2 : PySem.W.nsIn K mainGlobals "tuple" = some none) (z3 : PySem.W.nsIn K mainGlobals "list" = some none) (z4 : PySem.W.nsIn K mainGlobals "int" = some none) (z5 : PySem.W.nsIn K mainGlobals "repr" = some none) (z6 : PySem.W.nsIn K mainGlobals "abs" = some none) (z7 : PySem.W.nsIn K mainGlobals "min" = some none) (z8 : PySem.W.nsIn K mainGlobals "max" = some none) (z9 : PySem.W.nsIn K mainGlobals "enumerate" = some none)
    (math : ∀ ns mx, ns.length ≤ 63 → ∃ e' s', evSs noGl (cl depth) dL [] (none :: some .s :: List.replicate 16 none) (src0 ns mx) = some (.rt (.v (.bool true)), e', s')) :
    ∃ fd : FuncData, (∀ (s : Shared) (v : Value), BindsTo s fd ⟨[v], []⟩ [("script", v)]) ∧ ∀ base : Heap, K.In base → base.Ns mainGlobals mg → FnG P w K mg base (depth + 1) fa fd ["script"] (spLaw K) := by
  have hb : ∀ x ∈ bltNames, mg x = none := by
    intro x hx
    simp only [bltNames, List.mem_cons, List.not_mem_nil, or_false] at hx
    rcases hx with rfl | rfl | rfl | rfl | rfl | rfl | rfl | rfl | rfl | rfl
    all_goals first | exact PySem.W.mg_none_of X G z0 | exact PySem.W.mg_none_of X G z1 | exact PySem.W.mg_none_of X G z2 | exact PySem.W.mg_none_of X G z3 | exact PySem.W.mg_none_of X G z4 | exact PySem.W.mg_none_of X G z5 | exact PySem.W.mg_none_of X G z6 | exact PySem.W.mg_none_of X G z7 | exact PySem.W.mg_none_of X G z8 | exact PySem.W.mg_none_of X G z9
  obtain ⟨fd, F, bd⟩ := fL
  obtain ⟨fs, fds, g1, g2, FS, b⟩ := fS
  refine ⟨fd, bd, fun base _ _ => ?_⟩
  exact fnG_law F scL hb (FnG.mono (fnG_src (k := 0) FS scS hb fun X W g => bS X W g) (by decide)) g1 g2 b (by rfl) (by decide +kernel) (by decide +kernel) (by decide +kernel)
    (defs_ok hb (irs f1 f2 f3 f4 f5 f6 f7 f8 f9 f10 f11 f12 f13 f14 f15 f16) depth) (fun X W _ _ h3 g => bL X W h3 g) math
end GW.Law

namespace GW.Law
open PySem GW

theorem run {f : Nat} {d : Fn} {gs : List Ga} {n : Nat} {s : Src} (hd : fnsF (f + 1) = some d) (h1 : d.np = gs.length) (h2 : decide (d.np ≤ d.ns) = true) :
    cl (n + 1) (f + 1) gs s = outC (evSs noGl (cl n) d.body (lentIx gs 0) (startS d.ns gs) s) := by
  show ((fnsF (f + 1)).bind fun d => if d.np = gs.length && decide (gs.length ≤ d.ns) then outC (evSs noGl (callF noGl noPick fnsF n) d.body (lentIx gs 0) (startS d.ns gs) s) else none) = _
  rw [hd]
  show (if d.np = gs.length && decide (gs.length ≤ d.ns) then _ else _) = _
  have h3 := of_decide_eq_true h2
  rw [if_pos (by rw [Bool.and_eq_true, decide_eq_true_eq, decide_eq_true_eq]; exact ⟨h1, by omega⟩)]
  rfl
theorem call1 {m : Int} {r : List D} {k : Nat} {s : Src} (h : rng1 m = some r) : cl (k + 1) 1 [.v (.int m)] s = some (.v (.tuple r), s) := by
  rw [run (d := d1) rfl rfl rfl]
  simp [d1, evSs, evS, evT, evE, evDs, evAs, evG, evCs, evI, putT, putTs, bindT, bindTs, at_, frz, resolve, res1, rvC, opD, op1, op2, ixD, vi, vb, toGa, itemsD, outC, startS, slotG, lentIx, lent, lenD, intD, addD, truD, h]
theorem call2 {m : Int} {r : List D} {k : Nat} {s : Src} (h : rng3 (m - 1) (-1) (-1) = some r) : cl (k + 1) 2 [.v (.int m)] s = some (.v (.tuple r), s) := by
  rw [run (d := d2) rfl rfl rfl]
  simp [d2, evSs, evS, evT, evE, evDs, evAs, evG, evCs, evI, putT, putTs, bindT, bindTs, at_, frz, resolve, res1, rvC, opD, op1, op2, ixD, vi, vb, toGa, itemsD, outC, startS, slotG, lentIx, lent, lenD, intD, addD, truD, h]
theorem call3 {row : List D} {i j : Nat} {a b : D} {k : Nat} {s : Src} (hi : row[i]? = some a) (hj : row[j]? = some b) : cl (k + 1) 3 [.v (.tuple row), .v (.int i), .v (.int j)] s = some (.v (.tuple ((row.set i b).set j a)), s) := by
  have h1 := atI_n hi
  have h2 := atI_n hj
  have h3 := ixN_n (List.getElem?_eq_some_iff.mp hi).1
  have h4 : L2.ixN (row.set i b).length (j : Int) = some j := ixN_n (by rw [List.length_set]; exact (List.getElem?_eq_some_iff.mp hj).1)
  rw [List.length_set] at h4
  rw [run (d := d3) rfl rfl rfl]
  simp [d3, evSs, evS, evT, evE, evDs, evAs, evG, evCs, evI, putT, putTs, bindT, bindTs, at_, frz, resolve, res1, rvC, opD, op1, op2, ixD, vi, vb, toGa, itemsD, outC, startS, slotG, lentIx, lent, lenD, intD, addD, truD, h1, h2, h3, h4, setAt]
theorem call4 {row : List D} {i : Nat} {a b : D} {k : Nat} {s : Src} (hi : row[i]? = some a) (hj : row[i + 1]? = some b) : cl (k + 2) 4 [.v (.tuple row), .v (.int i)] s = some (.v (.tuple ((row.set i b).set (i + 1) a)), s) := by
  have h := call3 (k := k) (s := s) hi hj
  rw [run (d := d4) rfl rfl rfl]
  simp at h
  simp [d4, evSs, evS, evT, evE, evDs, evAs, evG, evCs, evI, putT, putTs, bindT, bindTs, at_, frz, resolve, res1, rvC, opD, op1, op2, ixD, vi, vb, toGa, itemsD, outC, startS, slotG, lentIx, lent, lenD, intD, addD, truD, h]

section
variable {α β : Type}
def swapL (row : List α) (k : Nat) : List α := match row[k]?, row[k + 1]? with
  | some a, some b => (row.set k b).set (k + 1) a
  | _, _ => row
theorem swapL_len (row : List α) (k : Nat) : (swapL row k).length = row.length := by
  unfold swapL
  split <;> simp
def ledL (row : List α) (ks : List Nat) : List α := ks.foldl swapL row
theorem ledL_len (ks : List Nat) : ∀ row : List α, (ledL row ks).length = row.length := by
  induction ks with
  | nil => intro row; rfl
  | cons k ks ih =>
    intro row
    show (ledL (swapL row k) ks).length = _
    rw [ih, swapL_len]
theorem swapL_map (f : α → β) (row : List α) (k : Nat) : swapL (row.map f) k = (swapL row k).map f := by
  unfold swapL
  rw [List.getElem?_map, List.getElem?_map]
  cases row[k]? with
  | none => rfl
  | some a => cases row[k + 1]? with
    | none => rfl
    | some b => simp [List.map_set]
theorem ledL_map (f : α → β) (ks : List Nat) : ∀ row : List α, ledL (row.map f) ks = (ledL row ks).map f := by
  induction ks with
  | nil => intro row; rfl
  | cons k ks ih =>
    intro row
    show ledL (swapL (row.map f) k) ks = (ledL (swapL row k) ks).map f
    rw [swapL_map, ih]
theorem swap_cut {row : List α} {k : Nat} {a b : α} (h : row[k]? = some a) (h2 : row[k + 1]? = some b) : row.take k ++ ([b, a] ++ row.drop (k + 2)) = swapL row k := by
  unfold swapL
  rw [h, h2]
  have l1 := (List.getElem?_eq_some_iff.mp h2).1
  apply List.ext_getElem?
  intro i
  have lt : (row.take k).length = k := by simp; omega
  by_cases c1 : i < k
  · rw [List.getElem?_append_left (by omega), List.getElem?_take_of_lt c1]
    simp [List.getElem?_set, show ¬ k + 1 = i by omega, show ¬ k = i by omega]
  · rw [List.getElem?_append_right (by omega), lt]
    by_cases c2 : i = k
    · subst c2
      simp [List.getElem?_set]; omega
    · by_cases c3 : i = k + 1
      · subst c3
        rw [show k + 1 - k = 1 by omega]
        simp [List.getElem?_set]; omega
      · obtain ⟨j, rfl⟩ : ∃ j, i = k + 2 + j := ⟨i - (k + 2), by omega⟩
        rw [show k + 2 + j - k = j + 2 by omega]
        simp [List.getElem?_set, show ¬ k + 1 = k + 2 + j by omega, show ¬ k = k + 2 + j by omega]
end
abbrev iD (k : Nat) : D := .int (k : Int)
abbrev nD (ks : List Nat) : List D := ks.map iD
theorem call4' {row : List D} {i : Nat} {k : Nat} {s : Src} (h : i + 1 < row.length) : cl (k + 2) 4 [.v (.tuple row), .v (.int i)] s = some (.v (.tuple (swapL row i)), s) := by
  have h1 : row[i]? = some row[i] := List.getElem?_eq_getElem (by omega)
  have h2 : row[i + 1]? = some row[i + 1] := List.getElem?_eq_getElem h
  rw [call4 h1 h2]
  unfold swapL
  rw [h1, h2]
theorem call5 {row : List D} {ks : List Nat} {m : Nat} {s : Src} (h : ∀ k ∈ ks, k + 1 < row.length) : cl (m + 3) 5 [.v (.tuple row), .v (.tuple (nD ks))] s = some (.v (.tuple (ledL row ks)), s) := by
  have key : ∀ (ks : List Nat) (row : List D) (w x : Option Ct), (∀ k ∈ ks, k + 1 < row.length) →
      ∃ x', walk (bindT (.tname 2) []) (evSs noGl (cl (m + 2)) (.cons (.asg (.tname 0) (.call 4 (.cons (.var 0) (.cons (.var 2) .nil)))) .nil) []) (nD ks) [some (.v (.tuple row)), w, x] s = some (.nx, [some (.v (.tuple (ledL row ks))), w, x'], s) := by
    intro ks
    induction ks with
    | nil => intro row w x _; exact ⟨x, rfl⟩
    | cons k ks ih =>
      intro row w x h
      obtain ⟨x', hx⟩ := ih (swapL row k) w (some (.v (.int k))) fun k' hk => by rw [swapL_len]; exact h k' (by simp [hk])
      refine ⟨x', ?_⟩
      have c := call4' (k := m) (s := s) (h k (by simp))
      rw [show nD (k :: ks) = iD k :: nD ks from rfl, walk_nx (σ1 := [some (.v (.tuple row)), w, some (.v (.int k))]) (σ2 := [some (.v (.tuple (swapL row k))), w, some (.v (.int k))]) (s2 := s) rfl (by simp [evSs, evS, evT, evE, evDs, evAs, evG, evCs, evI, putT, putTs, bindT, bindTs, at_, frz, resolve, res1, rvC, opD, op1, op2, ixD, vi, vb, toGa, itemsD, outC, startS, slotG, lentIx, lent, lenD, intD, addD, truD, c])]
      exact hx
  obtain ⟨x', hx⟩ := key ks row (some (.v (.tuple (nD ks)))) none h
  rw [run (d := d5) rfl rfl rfl]
  show outC (evSs noGl (cl (m + 2)) (.cons (.for_ (.iseq (.var 1)) (.tname 2) _) _) [] [some (.v (.tuple row)), some (.v (.tuple (nD ks))), none] s) = _
  rw [ss_nx ((for_eq (ds := nD ks) (lks := []) rfl).trans hx), ss_rt (v := .v (.tuple (ledL row ks))) (ret_eq rfl (by simp))]
  rfl
theorem rng1_n {n : Nat} (h : n ≤ 1000) : rng1 (n : Int) = some (nD (List.range n)) := by
  unfold rng1
  rw [if_pos]
  · unfold rangeL nD
    simp
  · rw [Bool.and_eq_true]
    refine ⟨?_, fits_n (by simp; omega)⟩
    unfold within
    rw [Bool.and_eq_true, decide_eq_true_eq, decide_eq_true_eq]
    omega
theorem call6 {n : Nat} {ks : List Nat} {m : Nat} {s : Src} (hn : n ≤ 1000) (h : ∀ k ∈ ks, k + 1 < n) : cl (m + 4) 6 [.v (.int n), .v (.tuple (nD ks))] s = some (.v (.tuple (ledL (nD (List.range n)) ks)), s) := by
  have c := call5 (m := m) (s := s) (row := nD (List.range n)) (ks := ks) (by simpa using h)
  have c1 := call1 (k := m + 2) (s := s) (rng1_n hn)
  rw [run (d := d6) rfl rfl rfl]
  show outC (evSs noGl (cl (m + 3)) (.cons (.ret (.call 5 (.cons (.call 1 (.cons (.var 0) .nil)) (.cons (.var 1) .nil)))) .nil) [] [some (.v (.int n)), some (.v (.tuple (nD ks)))] s) = _
  rw [ss_rt (ret_eq (call_eq (g_v rfl (call_eq (g_v rfl rfl rfl g_nl) c1) rfl (g_v rfl rfl rfl g_nl)) c) (by simp))]
  rfl
/-- behind -/
theorem call8 {one : List D} {ks : List Nat} {m : Nat} {s : Src} (hk : ks.length ≤ 1000) (h : ∀ k ∈ ks, k < one.length) : cl (m + 1) 8 [.v (.tuple one), .v (.tuple (nD ks))] s = some (.v (.tuple (ks.map fun k => one.getD k .none)), s) := by
  rw [run (d := d8) rfl rfl rfl]
  have hz : (nD ks).length ≤ sizeLine := by rw [sizeLine_eq]; simp; omega
  have ht := turns_map (own := [2]) (bind := bindT (.tname 2) []) (cnd := evT noGl (cl m) .yes []) (elt := evE noGl (cl m) (.op .ix (.cons (.lend 0) (.cons (.lend 2) .nil))) []) (σ := [some (.v (.tuple one)), some (.v (.tuple (nD ks))), none]) (s := s)
    (f := fun d => match d with | .int i => one.getD i.toNat .none | _ => .none) (ds := nD ks) (acc := []) (by simpa using hz) (fun d hd => by
      obtain ⟨k, hk, rfl⟩ := List.mem_map.mp hd
      obtain ⟨y, g⟩ : ∃ y, one[k]? = some y := ⟨one[k]'(h k hk), List.getElem?_eq_getElem (h k hk)⟩
      have g2 := atI_n g
      refine ⟨[some (.v (.tuple one)), some (.v (.tuple (nD ks))), some (.v (.int k))], .v y, [some (.v (.tuple one)), some (.v (.tuple (nD ks))), some (.v (.int k))], rfl, rfl, rfl, by simp [evSs, evS, evT, evE, evDs, evAs, evG, evCs, evI, putT, putTs, bindT, bindTs, at_, frz, resolve, res1, rvC, opD, op1, op2, ixD, vi, vb, toGa, itemsD, outC, startS, slotG, lentIx, lent, lenD, intD, addD, truD, g2], by simp [frz, List.getD, g], rfl⟩)
  have hc := comp_eq (gl := noGl) (cs := cl m) (it := .iseq (.var 1)) (lk := []) (own := [2]) (tg := .tname 2) (c := .yes) (σ := [some (.v (.tuple one)), some (.v (.tuple (nD ks))), none]) (s := s) (ds := nD ks) (lks := []) rfl rfl ht
  show outC (evSs noGl (cl m) (.cons (.ret (.op .tuple (.cons (.comp [2] _ _ _ _) .nil))) .nil) [] [some (.v (.tuple one)), some (.v (.tuple (nD ks))), none] s) = _
  rw [ss_rt (ret_eq (op1e rfl hc rfl rfl) (by simp))]
  simp [outC, Function.comp_def, nD]
/-- _law_led -/
theorem call15 {row : List D} {ks : List Nat} {m : Nat} {s : Src} (hr : row.length ≤ 100) (h : ∀ k ∈ ks, k + 1 < row.length) : cl (m + 1) 15 [.v (.tuple row), .v (.tuple (nD ks))] s = some (.v (.tuple (ledL row ks)), s) := by
  have key : ∀ (ks : List Nat) (row : List D) (r w x : Option Ct), row.length ≤ 100 → (∀ k ∈ ks, k + 1 < row.length) →
      ∃ x', walk (bindT (.tname 3) []) (evSs noGl (cl m) (.cons (.asg (.tname 2) (.op .add (.cons (.op .add (.cons (.op .slHi (.cons (.lend 2) (.cons (.var 3) .nil))) (.cons (.lst (.cons (.op .ix (.cons (.lend 2) (.cons (.op .add (.cons (.lend 3) (.cons (.con (.int 1)) .nil))) .nil))) (.cons (.op .ix (.cons (.lend 2) (.cons (.lend 3) .nil))) .nil))) .nil))) (.cons (.op .slLo (.cons (.lend 2) (.cons (.op .add (.cons (.lend 3) (.cons (.con (.int 2)) .nil))) .nil))) .nil)))) .nil) []) (nD ks) [r, w, some (.l row), x] s = some (.nx, [r, w, some (.l (ledL row ks)), x'], s) := by
    intro ks
    induction ks with
    | nil => intro row r w x _ _; exact ⟨x, rfl⟩
    | cons k ks ih =>
      intro row r w x hr h
      obtain ⟨x', hx⟩ := ih (swapL row k) r w (some (.v (.int k))) (by rw [swapL_len]; exact hr) fun k' hk => by rw [swapL_len]; exact h k' (by simp [hk])
      refine ⟨x', ?_⟩
      have hk := h k (by simp)
      obtain ⟨a, ga⟩ : ∃ a, row[k]? = some a := ⟨row[k], List.getElem?_eq_getElem (by omega)⟩
      obtain ⟨b, gb⟩ : ∃ b, row[k + 1]? = some b := ⟨row[k + 1], List.getElem?_eq_getElem hk⟩
      have a1 := atI_n ga
      have b1 := atI_n gb
      rw [← int_one] at b1
      have c1 := cut_hi row k
      have c2 := cut_lo row (k + 2)
      rw [← int_two] at c2
      have hs := swap_cut ga gb
      rw [show nD (k :: ks) = iD k :: nD ks from rfl, walk_nx (σ1 := [r, w, some (.l row), some (.v (.int k))]) (σ2 := [r, w, some (.l (swapL row k)), some (.v (.int k))]) (s2 := s) rfl (by
        have f1 : fits ((row.take k).length + [b, a].length) = true := fits_n (by simp; omega)
        have f2 : fits ((row.take k ++ [b, a]).length + (row.drop (k + 2)).length) = true := fits_n (by simp; omega)
        have f3 : fits 2 = true := fits_n (by decide)
        simp at f1 f2
        simp [evSs, evS, evT, evE, evDs, evAs, evG, evCs, evI, putT, putTs, bindT, bindTs, at_, frz, resolve, res1, rvC, opD, op1, op2, ixD, vi, vb, toGa, itemsD, outC, startS, slotG, lentIx, lent, lenD, intD, addD, truD, a1, b1, c1, c2, sliceD, f1, f2, f3]
        rw [← hs]; simp)]
      exact hx
  obtain ⟨x', hx⟩ := key ks row (some (.v (.tuple row))) (some (.v (.tuple (nD ks)))) none hr h
  rw [run (d := d15) rfl rfl rfl]
  show outC (evSs noGl (cl m) (.cons _ (.cons (.for_ (.iseq (.var 1)) (.tname 3) _) _)) [] [some (.v (.tuple row)), some (.v (.tuple (nD ks))), none, none] s) = _
  rw [ss_nx (σ1 := [some (.v (.tuple row)), some (.v (.tuple (nD ks))), some (.l row), none]) (s1 := s) (by simp [evSs, evS, evT, evE, evDs, evAs, evG, evCs, evI, putT, putTs, bindT, bindTs, at_, frz, resolve, res1, rvC, opD, op1, op2, ixD, vi, vb, toGa, itemsD, outC, startS, slotG, lentIx, lent, lenD, intD, addD, truD]), ss_nx ((for_eq (ds := nD ks) (lks := []) rfl).trans hx)]
  simp [evSs, evS, evT, evE, evDs, evAs, evG, evCs, evI, putT, putTs, bindT, bindTs, at_, frz, resolve, res1, rvC, opD, op1, op2, ixD, vi, vb, toGa, itemsD, outC, startS, slotG, lentIx, lent, lenD, intD, addD, truD]
/-- _law_behind -/
theorem call16 {one : List D} {ks : List Nat} {m : Nat} {s : Src} (hk : ks.length ≤ 1000) (h : ∀ k ∈ ks, k < one.length) : cl (m + 1) 16 [.v (.tuple one), .v (.tuple (nD ks))] s = some (.v (.tuple (ks.map fun k => one.getD k .none)), s) := by
  have e : cl (m + 1) 16 [.v (.tuple one), .v (.tuple (nD ks))] s = cl (m + 1) 8 [.v (.tuple one), .v (.tuple (nD ks))] s := by
    rw [run (d := d16) rfl rfl rfl, run (d := d8) rfl rfl rfl]
    rfl
  rw [e, call8 hk h]
theorem pull {m : Nat} {i : Int} : ∀ (n : Nat) (s : Src), s.cells.length < n → ∃ s', again (evT noGl (cl m) (.and (.tru (.op .gt (.cons (.lend 1) (.cons (.con (.int 1)) .nil)))) (.and (.tru (.op .lt (.cons (.fld 0 .left) (.cons (.con (.int 2)) .nil)))) (.tru (.op .gt (.cons (.clen 0) (.cons (.con (.int 0)) .nil)))))) []) (evSs noGl (cl m) (.cons (.sfld 0 .left (.cpop 0)) .nil) []) n [some .s, some (.v (.int i)), none, none] s = some (.nx, [some .s, some (.v (.int i)), none, none], s') ∧ s'.cells.length ≤ s.cells.length
  | 0, s, h => absurd h (Nat.not_lt_zero _)
  | n + 1, s, h => by
    by_cases hc : 1 < i ∧ s.left < 2 ∧ 0 < s.cells.length
    · obtain ⟨h1, h2, h3⟩ := hc
      obtain ⟨z, hz⟩ : ∃ z, s.cells[s.cells.length - 1]? = some z := ⟨s.cells[s.cells.length - 1], List.getElem?_eq_getElem (by omega)⟩
      obtain ⟨s', e, l⟩ := pull (m := m) (i := i) n ⟨s.cells.dropLast, z, s.mixed, s.turn⟩ (by simp; omega)
      refine ⟨s', ?_, by simp at l; omega⟩
      have q1 : evT noGl (cl m) (.and (.tru (.op .gt (.cons (.lend 1) (.cons (.con (.int 1)) .nil)))) (.and (.tru (.op .lt (.cons (.fld 0 .left) (.cons (.con (.int 2)) .nil)))) (.tru (.op .gt (.cons (.clen 0) (.cons (.con (.int 0)) .nil)))))) [] [some .s, some (.v (.int i)), none, none] s = some (true, [some .s, some (.v (.int i)), none, none], s) := by
        simp [evSs, evS, evT, evE, evDs, evAs, evG, evCs, evI, putT, putTs, bindT, bindTs, at_, frz, resolve, res1, rvC, opD, op1, op2, ixD, vi, vb, toGa, itemsD, outC, startS, slotG, lentIx, lent, lenD, intD, addD, truD, isOrd, cmpI, Src.get, h1, h2]
        omega
      have q2 : evSs noGl (cl m) (.cons (.sfld 0 .left (.cpop 0)) .nil) [] [some .s, some (.v (.int i)), none, none] s = some (.nx, [some .s, some (.v (.int i)), none, none], ⟨s.cells.dropLast, z, s.mixed, s.turn⟩) := by
        simp [evSs, evS, evT, evE, evDs, evAs, evG, evCs, evI, putT, putTs, bindT, bindTs, at_, frz, resolve, res1, rvC, opD, op1, op2, ixD, vi, vb, toGa, itemsD, outC, startS, slotG, lentIx, lent, lenD, intD, addD, truD, hz, Src.put]
      rw [again_go q1 q2, e]
    · refine ⟨s, ?_, Nat.le_refl _⟩
      have q1 : evT noGl (cl m) (.and (.tru (.op .gt (.cons (.lend 1) (.cons (.con (.int 1)) .nil)))) (.and (.tru (.op .lt (.cons (.fld 0 .left) (.cons (.con (.int 2)) .nil)))) (.tru (.op .gt (.cons (.clen 0) (.cons (.con (.int 0)) .nil)))))) [] [some .s, some (.v (.int i)), none, none] s = some (false, [some .s, some (.v (.int i)), none, none], s) := by
        by_cases h1 : 1 < i
        · by_cases h2 : s.left < 2
          · have h3 : s.cells.length = 0 := by omega
            simp [evSs, evS, evT, evE, evDs, evAs, evG, evCs, evI, putT, putTs, bindT, bindTs, at_, frz, resolve, res1, rvC, opD, op1, op2, ixD, vi, vb, toGa, itemsD, outC, startS, slotG, lentIx, lent, lenD, intD, addD, truD, isOrd, cmpI, Src.get, h1, h2, h3]
          · simp [evSs, evS, evT, evE, evDs, evAs, evG, evCs, evI, putT, putTs, bindT, bindTs, at_, frz, resolve, res1, rvC, opD, op1, op2, ixD, vi, vb, toGa, itemsD, outC, startS, slotG, lentIx, lent, lenD, intD, addD, truD, isOrd, cmpI, Src.get, h1, h2]
        · simp [evSs, evS, evT, evE, evDs, evAs, evG, evCs, evI, putT, putTs, bindT, bindTs, at_, frz, resolve, res1, rvC, opD, op1, op2, ixD, vi, vb, toGa, itemsD, outC, startS, slotG, lentIx, lent, lenD, intD, addD, truD, isOrd, cmpI, Src.get, h1]
      rw [again_stop q1]
theorem call10 {m : Nat} {i : Int} {s : Src} (h1 : 1 ≤ i) (h2 : i ≤ 1000) (hs : s.cells.length ≤ 100) : ∃ (r : Nat) (s' : Src), cl (m + 1) 10 [.s, .v (.int i)] s = some (.v (.int r), s') ∧ (r : Int) < i ∧ s'.cells.length ≤ 100 := by
  obtain ⟨s1, e, l⟩ := pull (m := m) (i := i) turnsMost s (by unfold turnsMost; omega)
  have hw : evS noGl (cl m) (.whl (.and (.tru (.op .gt (.cons (.lend 1) (.cons (.con (.int 1)) .nil)))) (.and (.tru (.op .lt (.cons (.fld 0 .left) (.cons (.con (.int 2)) .nil)))) (.tru (.op .gt (.cons (.clen 0) (.cons (.con (.int 0)) .nil)))))) (.cons (.sfld 0 .left (.cpop 0)) .nil)) [] [some .s, some (.v (.int i)), none, none] s = some (.nx, [some .s, some (.v (.int i)), none, none], s1) := e
  rw [run (d := d10) rfl rfl rfl]
  show ∃ (r : Nat) (s' : Src), outC (evSs noGl (cl m) (.cons (.whl (.and (.tru (.op .gt (.cons (.lend 1) (.cons (.con (.int 1)) .nil)))) (.and (.tru (.op .lt (.cons (.fld 0 .left) (.cons (.con (.int 2)) .nil)))) (.tru (.op .gt (.cons (.clen 0) (.cons (.con (.int 0)) .nil)))))) (.cons (.sfld 0 .left (.cpop 0)) .nil)) (.cons _ (.cons _ _))) [] [some .s, some (.v (.int i)), none, none] s) = _ ∧ _
  rw [ss_nx hw]
  clear e hw
  have l1 : s1.cells.length ≤ 100 := by omega
  have mx : (if i > 1 then i else 1) = i := by split <;> omega
  by_cases hc : i < 2 ∨ 1 < s1.left
  · refine ⟨(s1.left % i).toNat, ⟨s1.cells, s1.left / i, s1.mixed, s1.turn⟩, ?_, ?_, l1⟩
    · have e1 : ((s1.left % i).toNat : Int) = s1.left % i := Int.toNat_of_nonneg (Int.emod_nonneg _ (by omega))
      rw [e1]
      have k1 : (decide (0 < i) && decide (i < 1073741824)) = true := by simp; omega
      have k2 : 0 < i := by omega
      by_cases h3 : i < 2
      · simp [evSs, evS, evT, evE, evDs, evAs, evG, evCs, evI, putT, putTs, bindT, bindTs, at_, frz, resolve, res1, rvC, opD, op1, op2, ixD, vi, vb, toGa, itemsD, outC, startS, slotG, lentIx, lent, lenD, intD, addD, truD, isOrd, cmpI, Src.get, Src.put, mx, k2, h3, show i < 1073741824 by omega]
      · have h4 : 1 < s1.left := by omega
        simp [evSs, evS, evT, evE, evDs, evAs, evG, evCs, evI, putT, putTs, bindT, bindTs, at_, frz, resolve, res1, rvC, opD, op1, op2, ixD, vi, vb, toGa, itemsD, outC, startS, slotG, lentIx, lent, lenD, intD, addD, truD, isOrd, cmpI, Src.get, Src.put, mx, k2, h3, h4, show i < 1073741824 by omega]
    · have := Int.emod_lt_of_pos s1.left (show 0 < i by omega)
      have := Int.emod_nonneg s1.left (show i ≠ 0 by omega)
      omega
  · have h3 : ¬ i < 2 := fun z => hc (Or.inl z)
    have h4 : ¬ 1 < s1.left := fun z => hc (Or.inr z)
    generalize hm1 : (s1.mixed + (s1.turn + 1) * 104729) % 998244353 = m1
    have b1 : 0 ≤ m1 := by rw [← hm1]; exact Int.emod_nonneg _ (by decide)
    have b2 : m1 < 998244353 := by rw [← hm1]; exact Int.emod_lt_of_pos _ (by decide)
    generalize hm2 : (m1 * m1 + (s1.turn + 1) * 17) % 2147483647 = m2
    refine ⟨(m2 / 16 % i).toNat, ⟨s1.cells, s1.left, m2, s1.turn + 1⟩, ?_, ?_, l1⟩
    · have e1 : ((m2 / 16 % i).toNat : Int) = m2 / 16 % i := Int.toNat_of_nonneg (Int.emod_nonneg _ (by omega))
      rw [e1]
      have o1 : mulOk m1 m1 = true := by unfold mulOk; simp; omega
      have o2 : mulOk (s1.turn + 1) 104729 = true := by unfold mulOk; simp
      have o3 : mulOk (s1.turn + 1) 17 = true := by unfold mulOk; simp
      simp [evSs, evS, evT, evE, evDs, evAs, evG, evCs, evI, putT, putTs, bindT, bindTs, at_, frz, resolve, res1, rvC, opD, op1, op2, ixD, vi, vb, toGa, itemsD, outC, startS, slotG, lentIx, lent, lenD, intD, addD, truD, isOrd, cmpI, Src.get, Src.put, mulD, h3, h4, o1, o2, o3, hm1, hm2, show 0 < i by omega]
    · have := Int.emod_lt_of_pos (m2 / 16) (show 0 < i by omega)
      have := Int.emod_nonneg (m2 / 16) (show i ≠ 0 by omega)
      omega
end GW.Law

namespace GW.Law
open PySem GW

theorem nD_get {ps : List Nat} {i : Nat} {p : Nat} (h : ps[i]? = some p) : (nD ps)[i]? = some (iD p) := by
  show (ps.map iD)[i]? = _
  rw [List.getElem?_map, h]; rfl
theorem lay_n : ∀ ps : List Nat, PyData.canLayAll0 (nD ps) = true
  | [] => by simp [PyData.canLayAll0]
  | p :: ps => by
    have := lay_n ps
    simp only [nD, List.map_cons, PyData.canLayAll0] at this ⊢
    simp [PyData.canLay0, this]
theorem depth_n : ∀ ps : List Nat, PyData.depthAll (nD ps) ≤ 1
  | [] => by simp [PyData.depthAll]
  | p :: ps => by
    have := depth_n ps
    simp only [nD, List.map_cons, PyData.depthAll] at this ⊢
    simp [PyData.depth] at this ⊢
    omega
theorem shaped_t (ps : List Nat) : SeqAt.shaped (.tuple (nD ps)) = true := by
  have h1 := lay_n ps
  have h2 := depth_n ps
  unfold SeqAt.shaped
  simp only [PyData.canLay0, PyData.depth]
  rw [Bool.and_eq_true]
  exact ⟨h1, by simp; omega⟩
theorem shaped_i (k : Int) : SeqAt.shaped (.int k) = true := by
  unfold SeqAt.shaped
  simp [PyData.canLay0, PyData.depth]
theorem eqv_i (a b : Nat) : PyData.eqv (iD a) (iD b) = decide (a = b) := by
  simp only [iD, PyData.eqv]
  by_cases h : a = b
  · subst h; simp
  · have h' : ¬ (a : Int) = (b : Int) := by omega
    simp [h, h']
theorem index_n {t : Nat} : ∀ {ps : List Nat}, t ∈ ps → indexOf (iD t) (nD ps) = some (ps.idxOf t)
  | p :: ps, h => by
    show (if PyData.eqv (iD p) (iD t) = true then some 0 else (indexOf (iD t) (nD ps)).map (· + 1)) = _
    rw [eqv_i, List.idxOf_cons]
    by_cases e : p = t
    · subst e; simp
    · have ht : t ∈ ps := (List.mem_cons.mp h).resolve_left (Ne.symm e)
      rw [if_neg (by simp [e]), index_n ht, beq_eq_false_iff_ne.mpr e]
      rfl
theorem call9 {ps : List Nat} {t m : Nat} {s : Src} (h : t ∈ ps) : cl (m + 1) 9 [.v (.tuple (nD ps)), .v (.int t)] s = some (.v (.int (ps.idxOf t : Nat)), s) := by
  have h1 := index_n h
  have h2 := shaped_t ps
  have h3 := shaped_i t
  rw [run (d := d9) rfl rfl rfl]
  show outC (evSs noGl (cl m) (.cons (.ret (.op .index (.cons (.var 0) (.cons (.lend 1) .nil)))) .nil) [] [some (.v (.tuple (nD ps))), some (.v (.int t))] s) = _
  have q : opD .index [.d (.tuple (nD ps)), .d (iD t)] = some (.v (.int (ps.idxOf t : Nat))) := by
    show (if SeqAt.shaped (.tuple (nD ps)) && SeqAt.shaped (iD t) then (indexOf (iD t) (nD ps)).map fun j => Ct.v (.int (j : Nat)) else none) = _
    rw [h2, h3, h1]; rfl
  have q2 : evE noGl (cl m) (.op .index (.cons (.var 0) (.cons (.lend 1) .nil))) [] [some (.v (.tuple (nD ps))), some (.v (.int t))] s = some (.v (.int (ps.idxOf t : Nat)), [some (.v (.tuple (nD ps))), some (.v (.int t))], s) := by
    show (opD .index [.d (.tuple (nD ps)), .d (iD t)]).map _ = _
    rw [q]; rfl
  rw [ss_rt (ret_eq q2 (by simp))]
  rfl
def fillL : List D → List Nat → Nat → List D
  | f, [], _ => f
  | f, p :: ps, j => fillL (f.set p (iD j)) ps (j + 1)
theorem fill_at : ∀ (ps : List Nat) (f : List D) (j t : Nat), ps.Nodup → t < f.length → (fillL f ps j)[t]? = if t ∈ ps then some (iD (j + ps.idxOf t)) else f[t]?
  | [], f, j, t, _, _ => by simp [fillL]
  | p :: ps, f, j, t, nd, ht => by
    have nd' := List.nodup_cons.mp nd
    show (fillL (f.set p (iD j)) ps (j + 1))[t]? = _
    rw [fill_at ps _ _ _ nd'.2 (by simpa using ht), List.idxOf_cons]
    by_cases h1 : t ∈ ps
    · have hne : p ≠ t := fun z => nd'.1 (z ▸ h1)
      rw [if_pos h1, if_pos (List.mem_cons_of_mem _ h1), beq_eq_false_iff_ne.mpr hne]
      show some (iD (j + 1 + ps.idxOf t)) = some (iD (j + (ps.idxOf t + 1)))
      rw [show j + 1 + ps.idxOf t = j + (ps.idxOf t + 1) by omega]
    · by_cases h2 : p = t
      · subst h2
        simp [h1, ht]
      · simp [h1, Ne.symm h2, List.getElem?_set, h2]
theorem fill_len : ∀ (ps : List Nat) (f : List D) (j : Nat), (fillL f ps j).length = f.length
  | [], _, _ => rfl
  | p :: ps, f, j => by
    show (fillL (f.set p (iD j)) ps (j + 1)).length = _
    rw [fill_len, List.length_set]
/-- where each thing stands -/
def invN (n : Nat) (ps : List Nat) : List Nat := (List.range n).map fun t => ps.idxOf t
theorem fill_inv {n : Nat} {ps : List Nat} (h : ps.Perm (List.range n)) : fillL (List.replicate n (iD 0)) ps 0 = nD (invN n ps) := by
  apply List.ext_getElem?
  intro t
  by_cases ht : t < n
  · rw [fill_at _ _ _ _ (h.nodup_iff.mpr List.nodup_range) (by simpa using ht), if_pos (h.mem_iff.mpr (by simpa using ht))]
    simp [nD, invN, List.getElem?_range, ht]
  · rw [List.getElem?_eq_none (by rw [fill_len]; simpa using ht), List.getElem?_eq_none (by simp [nD, invN]; omega)]
theorem call7 {n : Nat} {ps : List Nat} {m : Nat} {s : Src} (hn : n ≤ 1000) (h : ps.Perm (List.range n)) : cl (m + 1) 7 [.v (.tuple (nD ps))] s = some (.v (.tuple (nD (invN n ps))), s) := by
  have key : ∀ (ps : List Nat) (j : Nat) (f : List D) (r x y : Option Ct), (∀ p ∈ ps, p < f.length) →
      ∃ x' y', walk (bindT (.ttup (.cons (.tname 2) (.cons (.tname 3) .nil))) []) (evSs noGl (cl m) (.cons (.setit 1 (.var 3) (.var 2)) .nil) []) (((nD ps).zipIdx j).map fun p => PyData.tuple [.int (p.2 : Nat), p.1]) [r, some (.l f), x, y] s = some (.nx, [r, some (.l (fillL f ps j)), x', y'], s) := by
    intro ps
    induction ps with
    | nil => intro j f r x y _; exact ⟨x, y, rfl⟩
    | cons p ps ih =>
      intro j f r x y h
      obtain ⟨x', y', hx⟩ := ih (j + 1) (f.set p (iD j)) r (some (.v (.int j))) (some (.v (.int p))) fun p' hp => by rw [List.length_set]; exact h p' (by simp [hp])
      refine ⟨x', y', ?_⟩
      have hi := ixN_n (h p (by simp))
      rw [show nD (p :: ps) = iD p :: nD ps from rfl, List.zipIdx_cons, List.map_cons, walk_nx (σ1 := [r, some (.l f), some (.v (.int j)), some (.v (.int p))]) (σ2 := [r, some (.l (f.set p (iD j))), some (.v (.int j)), some (.v (.int p))]) (s2 := s) (by simp [bindT, bindTs]) (by simp [evSs, evS, evT, evE, evDs, evAs, evG, evCs, evI, putT, putTs, bindT, bindTs, at_, frz, resolve, res1, rvC, opD, op1, op2, ixD, vi, vb, toGa, itemsD, outC, startS, slotG, lentIx, lent, lenD, intD, addD, truD, setAt, hi])]
      exact hx
  have hl : ps.length = n := by rw [h.length_eq]; simp
  obtain ⟨x', y', hx⟩ := key ps 0 (List.replicate n (iD 0)) (some (.v (.tuple (nD ps)))) none none fun p hp => by simpa using h.mem_iff.mp hp
  rw [fill_inv h] at hx
  rw [run (d := d7) rfl rfl rfl]
  show outC (evSs noGl (cl m) (.cons _ (.cons (.for_ (.ienum (.var 0)) _ _) _)) [] [some (.v (.tuple (nD ps))), none, none, none] s) = _
  have f1 : fits 1 = true := fits_n (by decide)
  have f2 : fits n = true := fits_n hn
  have w1 : within (n : Int) = true := by unfold within; simp; omega
  have e1 : evE noGl (cl m) (.lst (.cons (.con (.int 0)) .nil)) [] [some (.v (.tuple (nD ps))), none, none, none] s = some (.l [iD 0], [some (.v (.tuple (nD ps))), none, none, none], s) := lst_eq (ds_cons rfl rfl ds_nil) (by simp)
  have e2 : evE noGl (cl m) (.op .len (.cons (.lend 0) .nil)) [] [some (.v (.tuple (nD ps))), none, none, none] s = some (.v (.int n), [some (.v (.tuple (nD ps))), none, none, none], s) := by
    simp [evSs, evS, evT, evE, evDs, evAs, evG, evCs, evI, putT, putTs, bindT, bindTs, at_, frz, resolve, res1, rvC, opD, op1, op2, ixD, vi, vb, toGa, itemsD, outC, startS, slotG, lentIx, lent, lenD, intD, addD, truD, hl]
  have e3 : opD .mul [.d (.list [iD 0]), .d (.int n)] = some (.l (List.replicate n (iD 0))) := by
    simp [opD, op2, mulD, f2, w1]
  have q1 := asg_nm (i := 1) (lk := []) (op2e rfl e1 rfl rfl e2 rfl e3) rfl (by simp)
  rw [ss_nx q1, ss_nx ((for_eq (ds := ((nD ps).zipIdx 0).map fun p => PyData.tuple [.int (p.2 : Nat), p.1]) (lks := []) rfl).trans hx)]
  simp [evSs, evS, evT, evE, evDs, evAs, evG, evCs, evI, putT, putTs, bindT, bindTs, at_, frz, resolve, res1, rvC, opD, op1, op2, ixD, vi, vb, toGa, itemsD, outC, startS, slotG, lentIx, lent, lenD, intD, addD, truD]
theorem erase_n (ps : List Nat) (i : Nat) : (nD ps).eraseIdx i = nD (ps.eraseIdx i) := by
  show (ps.map iD).eraseIdx i = (ps.eraseIdx i).map iD
  induction ps generalizing i with
  | nil => rfl
  | cons p ps ih =>
    cases i with
    | zero => rfl
    | succ i => simp [ih]
theorem erase_perm : ∀ {ps : List Nat} {i : Nat} (h : i < ps.length), (ps[i] :: ps.eraseIdx i).Perm ps
  | p :: ps, 0, _ => List.Perm.refl _
  | p :: ps, i + 1, h => by
    have ih := erase_perm (ps := ps) (i := i) (by simpa using h)
    have hi : i < ps.length := by simpa using h
    show (ps[i] :: p :: ps.eraseIdx i).Perm (p :: ps)
    exact (List.Perm.swap _ _ _).trans (List.Perm.cons _ ih)
theorem call12 {ps : List Nat} {m : Nat} {s : Src} (hp : ps.length ≤ 100) (hs : s.cells.length ≤ 100) : ∃ (qs : List Nat) (s' : Src), cl (m + 2) 12 [.s, .v (.list (nD ps))] s = some (.l (nD qs), s') ∧ qs.Perm ps ∧ s'.cells.length ≤ 100 := by
  have key : ∀ (ds : List D) (ps : List Nat) (acc : List D) (s : Src) (r w : Option Ct), ds.length = ps.length → acc.length + ps.length ≤ 200 → ps.length ≤ 100 → s.cells.length ≤ 100 →
      ∃ (qs : List Nat) (s' : Src), turns [3] (bindT (.tname 3) []) (evT noGl (cl (m + 1)) .yes []) (evE noGl (cl (m + 1)) (.pop 2 (.call 10 (.cons (.var 0) (.cons (.op .len (.cons (.lend 2) .nil)) .nil)))) []) ds [some .s, w, some (.l (nD ps)), none] s acc = some (acc ++ nD qs, [some .s, w, some (.l []), none], s') ∧ qs.Perm ps ∧ s'.cells.length ≤ 100 := by
    intro ds
    induction ds with
    | nil =>
      intro ps acc s r w h1 _ _ hs
      cases ps with
      | nil => exact ⟨[], s, by simp [turns, nD], List.Perm.refl _, hs⟩
      | cons _ _ => simp at h1
    | cons d ds ih =>
      intro ps acc s r w h1 h2 h3 hs
      have hpos : 0 < ps.length := by simp at h1; omega
      obtain ⟨k, s1, c, hk, l1⟩ := call10 (m := m) (i := (ps.length : Int)) (s := s) (by omega) (by omega) hs
      have hk' : k < ps.length := by omega
      have el : (ps.eraseIdx k).length = ps.length - 1 := by rw [List.length_eraseIdx, if_pos hk']
      obtain ⟨qs, s', e, pm, l2⟩ := ih (ps.eraseIdx k) (acc ++ [iD ps[k]]) s1 r w (by simp at h1; omega) (by simp; omega) (by omega) l1
      refine ⟨ps[k] :: qs, s', ?_, ?_, l2⟩
      · have g : (nD ps)[k]? = some (iD ps[k]) := nD_get (List.getElem?_eq_getElem hk')
        have ge : ps[k]? = some ps[k] := List.getElem?_eq_getElem hk'
        have w1 : within (k : Int) = true := by unfold within; simp; omega
        have sq : seqIndex? (k : Int) ps.length = some k := (L2.ixN_seq (ixN_n hk')).1
        have e2 : evE noGl (cl (m + 1)) (.op .len (.cons (.lend 2) .nil)) [] [some .s, w, some (.l (nD ps)), some (.v d)] s = some (.v (.int (ps.length : Nat)), [some .s, w, some (.l (nD ps)), some (.v d)], s) := by
          simp [evSs, evS, evT, evE, evDs, evAs, evG, evCs, evI, putT, putTs, bindT, bindTs, at_, frz, resolve, res1, rvC, opD, op1, op2, ixD, vi, vb, toGa, itemsD, outC, startS, slotG, lentIx, lent, lenD, intD, addD, truD]
        have e3 := call_eq (lk := []) (g_v (a := .var 0) (v := .s) (g := .s) (b := .cons (.op .len (.cons (.lend 2) .nil)) .nil) (σ := [some .s, w, some (.l (nD ps)), some (.v d)]) (s := s) (σ1 := [some .s, w, some (.l (nD ps)), some (.v d)]) (s1 := s) rfl rfl rfl (g_v rfl e2 rfl g_nl)) c
        have pe := pop_eq (i := 2) (lk := []) (ds0 := nD ps) rfl e3 rfl rfl w1 (by simpa using sq) g
        rw [erase_n] at pe
        rw [turns_t (σ1 := [some .s, w, some (.l (nD ps)), some (.v d)]) (σ2 := [some .s, w, some (.l (nD ps)), some (.v d)]) (s2 := s) (v := .v (iD ps[k])) (σ3 := [some .s, w, some (.l (nD (ps.eraseIdx k))), some (.v d)]) (s3 := s1) (x := iD ps[k]) rfl rfl pe rfl (by rw [sizeLine_eq]; omega)]
        show turns _ _ _ _ _ [some .s, w, some (.l (nD (ps.eraseIdx k))), none] _ _ = _
        rw [e]
        simp [nD]
      · exact (List.Perm.cons _ pm).trans (erase_perm hk')
  obtain ⟨qs, s', e, pm, l2⟩ := key (nD (List.range ps.length)) ps [] s none (some (.v (.list (nD ps)))) (by simp) (by simp; omega) hp hs
  refine ⟨qs, s', ?_, pm, l2⟩
  rw [run (d := d12) rfl rfl rfl]
  show outC (evSs noGl (cl (m + 1)) (.cons _ (.cons (.ret (.comp [3] _ _ _ _)) .nil)) [] [some .s, some (.v (.list (nD ps))), none, none] s) = _
  have r1 := rng1_n (n := ps.length) (by omega)
  rw [ss_nx (σ1 := [some .s, some (.v (.list (nD ps))), some (.l (nD ps)), none]) (s1 := s) (by simp [evSs, evS, evT, evE, evDs, evAs, evG, evCs, evI, putT, putTs, bindT, bindTs, at_, frz, resolve, res1, rvC, opD, op1, op2, ixD, vi, vb, toGa, itemsD, outC, startS, slotG, lentIx, lent, lenD, intD, addD, truD])]
  have hI : evI noGl (cl (m + 1)) (.irng1 (.op .len (.cons (.lend 2) .nil))) [] [some .s, some (.v (.list (nD ps))), some (.l (nD ps)), none] s = some (nD (List.range ps.length), [], [some .s, some (.v (.list (nD ps))), some (.l (nD ps)), none], s) :=
    irng1_eq (j := (ps.length : Nat)) (by simp [evSs, evS, evT, evE, evDs, evAs, evG, evCs, evI, putT, putTs, bindT, bindTs, at_, frz, resolve, res1, rvC, opD, op1, op2, ixD, vi, vb, toGa, itemsD, outC, startS, slotG, lentIx, lent, lenD, intD, addD, truD]) r1
  rw [ss_rt (ret_eq (comp_eq hI rfl e) (by simp))]
  simp [outC]
end GW.Law

namespace GW.Law
open PySem GW

section
variable {gl : Nat → Option D} {cs : Nat → List Ga → Src → Option (Ct × Src)} {a b c r : IR} {lk : List Nat} {σ σ1 σ2 σ3 : Sl} {s s1 s2 s3 : Src} {v u w : Ct}
theorem cs_cons {vs : List Ct} (h : evE gl cs a lk σ s = some (v, σ1, s1)) (h2 : evCs gl cs r lk σ1 s1 = some (vs, σ2, s2)) : evCs gl cs (.cons a r) lk σ s = some (v :: vs, σ2, s2) := by
  show (evE gl cs a lk σ s).bind _ = _
  rw [h]
  show (evCs gl cs r lk σ1 s1).map _ = _
  rw [h2]; rfl
theorem cs_nil : evCs gl cs .nil lk σ s = some ([], σ, s) := rfl
theorem par_eq {ts : IR} {vs : List Ct} (h : evCs gl cs a lk σ s = some (vs, σ1, s1)) (h2 : putTs gl cs ts lk vs σ1 s1 = some (σ2, s2)) : evS gl cs (.par ts a) lk σ s = some (.nx, σ2, s2) := by
  show (evCs gl cs a lk σ s).bind _ = _
  rw [h]
  show (putTs gl cs ts lk vs σ1 s1).map _ = _
  rw [h2]; rfl
end
theorem swapL_perm {α : Type} (row : List α) (k : Nat) : (swapL row k).Perm row := by
  cases h : row[k]? with
  | none => unfold swapL; rw [h]
  | some a =>
    cases h2 : row[k + 1]? with
    | none => unfold swapL; rw [h, h2]
    | some b =>
      rw [← swap_cut h h2]
      have e : row.take k ++ ([a, b] ++ row.drop (k + 2)) = row := by
        have l1 := (List.getElem?_eq_some_iff.mp h2).1
        have g1 : row.drop k = a :: row.drop (k + 1) := drop_at h
        have g2 : row.drop (k + 1) = b :: row.drop (k + 2) := drop_at h2
        show row.take k ++ (a :: b :: row.drop (k + 2)) = row
        rw [← g2, ← g1, List.take_append_drop]
      have p : (row.take k ++ ([b, a] ++ row.drop (k + 2))).Perm (row.take k ++ ([a, b] ++ row.drop (k + 2))) := List.Perm.append_left _ (List.Perm.swap _ _ _)
      rw [e] at p
      exact p
theorem gt_one {m n : Nat} {σ : Sl} {s : Src} (h : at_ σ 1 = some (.v (.int n))) : evE noGl (cl m) (.op .int (.cons (.op .gt (.cons (.lend 1) (.cons (.con (.int 1)) .nil))) .nil)) [] σ s = some (.v (.int (if 1 < n then 1 else 0)), σ, s) := by
  have q : evE noGl (cl m) (.op .gt (.cons (.lend 1) (.cons (.con (.int 1)) .nil))) [] σ s = some (.v (.bool (decide (1 < n))), σ, s) := by
    simp only [at_] at h
    simp [evSs, evS, evT, evE, evDs, evAs, evG, evCs, evI, putT, putTs, bindT, bindTs, at_, frz, resolve, res1, rvC, opD, op1, op2, ixD, vi, vb, toGa, itemsD, outC, startS, slotG, lentIx, lent, lenD, intD, addD, truD, h, isOrd, cmpI]
    omega
  refine op1e rfl q rfl ?_
  by_cases h1 : 1 < n
  · simp [opD, op1, intD, vi, h1]
  · simp [opD, op1, intD, vi, h1]
theorem sub_one {m n i : Nat} {σ : Sl} {s : Src} (h : at_ σ i = some (.v (.int n))) : evE noGl (cl m) (.op .sub (.cons (.lend i) (.cons (.con (.int 1)) .nil))) [] σ s = some (.v (.int ((n : Int) - 1)), σ, s) := by
  simp only [at_] at h
  simp [evSs, evS, evT, evE, evDs, evAs, evG, evCs, evI, putT, putTs, bindT, bindTs, at_, frz, resolve, res1, rvC, opD, op1, op2, ixD, vi, vb, toGa, itemsD, outC, startS, slotG, lentIx, lent, lenD, intD, addD, truD, h]
theorem add_one {m n i : Nat} {σ : Sl} {s : Src} (h : at_ σ i = some (.v (.int n))) : evE noGl (cl m) (.op .add (.cons (.lend i) (.cons (.con (.int 1)) .nil))) [] σ s = some (.v (.int ((n + 1 : Nat) : Int)), σ, s) := by
  simp only [at_] at h
  simp [evSs, evS, evT, evE, evDs, evAs, evG, evCs, evI, putT, putTs, bindT, bindTs, at_, frz, resolve, res1, rvC, opD, op1, op2, ixD, vi, vb, toGa, itemsD, outC, startS, slotG, lentIx, lent, lenD, intD, addD, truD, h]
/-- a draw, as an expression -/
theorem draw {m : Nat} {i : Int} {e : IR} {σ : Sl} {s : Src} (h0 : at_ σ 0 = some .s) (nl : notLend e = true) (he : evE noGl (cl (m + 1)) e [] σ s = some (.v (.int i), σ, s)) (h1 : 1 ≤ i) (h2 : i ≤ 1000) (hs : s.cells.length ≤ 100) :
    ∃ (r : Nat) (s' : Src), evE noGl (cl (m + 1)) (.call 10 (.cons (.var 0) (.cons e .nil))) [] σ s = some (.v (.int r), σ, s') ∧ (r : Int) < i ∧ s'.cells.length ≤ 100 := by
  obtain ⟨r, s', c, h3, h4⟩ := call10 (m := m) h1 h2 hs
  have v0 : evE noGl (cl (m + 1)) (.var 0) [] σ s = some (.s, σ, s) := by
    simp only [at_] at h0
    simp [evE, at_, h0]
  exact ⟨r, s', call_eq (g_v rfl v0 rfl (g_v nl he rfl g_nl)) c, h3, h4⟩
theorem call14 {n most m : Nat} {s : Src} (hn : 1 ≤ n) (hn2 : n ≤ 100) (hm : most ≤ 100) (hs : s.cells.length ≤ 100) : ∃ (ks : List Nat) (s' : Src), cl (m + 2) 14 [.s, .v (.int n), .v (.int most)] s = some (.v (.tuple (nD ks)), s') ∧ (∀ k ∈ ks, k + 1 < n) ∧ ks.length ≤ most ∧ s'.cells.length ≤ 100 := by
  have key : 1 < n → ∀ (ds acc : List D) (w : Option Ct) (s : Src), acc.length + ds.length ≤ 500 → s.cells.length ≤ 100 →
      ∃ (ks : List Nat) (s' : Src), turns [3] (bindT (.tname 3) []) (evT noGl (cl (m + 1)) .yes []) (evE noGl (cl (m + 1)) (.call 10 (.cons (.var 0) (.cons (.op .sub (.cons (.lend 1) (.cons (.con (.int 1)) .nil))) .nil))) []) ds [some .s, some (.v (.int n)), w, none] s acc = some (acc ++ nD ks, [some .s, some (.v (.int n)), w, none], s') ∧ (∀ k ∈ ks, k + 1 < n) ∧ ks.length = ds.length ∧ s'.cells.length ≤ 100 := by
    intro h1 ds
    induction ds with
    | nil => intro acc w s _ hs; exact ⟨[], s, by simp [turns, nD], by simp, rfl, hs⟩
    | cons d ds ih =>
      intro acc w s hl hs
      obtain ⟨k, s1, c, hk, l1⟩ := draw (m := m) (σ := [some .s, some (.v (.int n)), w, some (.v d)]) (s := s) (e := .op .sub (.cons (.lend 1) (.cons (.con (.int 1)) .nil))) rfl rfl (sub_one rfl) (by omega) (by omega) hs
      obtain ⟨ks, s', e, hks, hlen, l2⟩ := ih (acc ++ [iD k]) w s1 (by simp at hl ⊢; omega) l1
      refine ⟨k :: ks, s', ?_, ?_, by simp [hlen], l2⟩
      · rw [turns_t (σ1 := [some .s, some (.v (.int n)), w, some (.v d)]) (σ2 := [some .s, some (.v (.int n)), w, some (.v d)]) (s2 := s) (v := .v (iD k)) (σ3 := [some .s, some (.v (.int n)), w, some (.v d)]) (s3 := s1) (x := iD k) rfl rfl c rfl (by rw [sizeLine_eq]; omega)]
        show turns _ _ _ _ _ [some .s, some (.v (.int n)), w, none] _ _ = _
        rw [e]
        simp [nD]
      · intro k' hk'
        rcases List.mem_cons.mp hk' with rfl | h
        · omega
        · exact hks k' h
  obtain ⟨q, s1, c, hq, l1⟩ := draw (m := m) (σ := [some .s, some (.v (.int n)), some (.v (.int most)), none]) (s := s) (e := .op .add (.cons (.lend 2) (.cons (.con (.int 1)) .nil))) rfl rfl (add_one rfl) (by omega) (by omega) hs
  have g1 := gt_one (m := m + 1) (n := n) (σ := [some .s, some (.v (.int n)), some (.v (.int most)), none]) (s := s1) rfl
  have ml : opD .mul [.d (.int (q : Int)), .d (.int (if 1 < n then 1 else 0))] = some (.v (.int ((if 1 < n then q else 0 : Nat) : Int))) := by
    by_cases h1 : 1 < n
    · simp [opD, op2, mulD, mulOk, vi, h1]
    · simp [opD, op2, mulD, mulOk, vi, h1]
  have hI := irng1_eq (lk := []) (op2e rfl c rfl rfl g1 rfl ml) (rng1_n (n := if 1 < n then q else 0) (by split <;> omega))
  have hT : ∃ (ks : List Nat) (s' : Src), turns [3] (bindT (.tname 3) []) (evT noGl (cl (m + 1)) .yes []) (evE noGl (cl (m + 1)) (.call 10 (.cons (.var 0) (.cons (.op .sub (.cons (.lend 1) (.cons (.con (.int 1)) .nil))) .nil))) []) (nD (List.range (if 1 < n then q else 0))) [some .s, some (.v (.int n)), some (.v (.int most)), none] s1 [] = some (nD ks, [some .s, some (.v (.int n)), some (.v (.int most)), none], s') ∧ (∀ k ∈ ks, k + 1 < n) ∧ ks.length ≤ most ∧ s'.cells.length ≤ 100 := by
    by_cases h1 : 1 < n
    · obtain ⟨ks, s', e, h2, h3, h4⟩ := key h1 (nD (List.range (if 1 < n then q else 0))) [] (some (.v (.int most))) s1 (by simp [h1]; omega) l1
      exact ⟨ks, s', by simpa using e, h2, by rw [h3]; simp [h1]; omega, h4⟩
    · rw [if_neg h1]
      exact ⟨[], s1, rfl, by simp, by simp, l1⟩
  obtain ⟨ks, s', e, h2, h3, h4⟩ := hT
  refine ⟨ks, s', ?_, h2, h3, h4⟩
  rw [run (d := d14) rfl rfl rfl]
  show outC (evSs noGl (cl (m + 1)) (.cons (.ret (.op .tuple (.cons (.comp [3] _ _ _ _) .nil))) .nil) [] [some .s, some (.v (.int n)), some (.v (.int most)), none] s) = _
  rw [ss_rt (ret_eq (op1e rfl (comp_eq hI rfl e) rfl rfl) (by simp))]
  rfl
/-- two things of a list change places -/
theorem par_swap {m k : Nat} {row : List D} {a0 a1 a2 x : Option Ct} {s : Src} (h : k + 1 < row.length) :
    evS noGl (cl m) (.par (.cons (.tsub 3 (.var 5)) (.cons (.tsub 3 (.op .add (.cons (.lend 5) (.cons (.con (.int 1)) .nil)))) .nil)) (.cons (.op .ix (.cons (.lend 3) (.cons (.op .add (.cons (.lend 5) (.cons (.con (.int 1)) .nil))) .nil))) (.cons (.op .ix (.cons (.lend 3) (.cons (.lend 5) .nil))) .nil))) [] [a0, a1, a2, some (.l row), x, some (.v (.int k))] s = some (.nx, [a0, a1, a2, some (.l (swapL row k)), x, some (.v (.int k))], s) := by
  obtain ⟨a, ga⟩ : ∃ a, row[k]? = some a := ⟨row[k], List.getElem?_eq_getElem (by omega)⟩
  obtain ⟨b, gb⟩ : ∃ b, row[k + 1]? = some b := ⟨row[k + 1], List.getElem?_eq_getElem h⟩
  have h1 := atI_n ga
  have h2 := atI_n gb
  have h3 := ixN_n (show k < row.length by omega)
  have h4 := ixN_n h
  rw [← int_one] at h2 h4
  have hs : swapL row k = (row.set k b).set (k + 1) a := by unfold swapL; rw [ga, gb]
  rw [hs]
  simp [evSs, evS, evT, evE, evDs, evAs, evG, evCs, evI, putT, putTs, bindT, bindTs, at_, frz, resolve, res1, rvC, opD, op1, op2, ixD, vi, vb, toGa, itemsD, outC, startS, slotG, lentIx, lent, lenD, intD, addD, truD, h1, h2, h3, h4, setAt]
end GW.Law

namespace GW.Law
open PySem GW

section
variable {gl : Nat → Option D} {cs : Nat → List Ga → Src → Option (Ct × Src)} {a b c r : IR} {lk : List Nat} {σ σ1 σ2 σ3 : Sl} {s s1 s2 s3 : Src} {v u w : Ct} {o : Op} {i j : Nat} {rv rv2 : Rv} {y : D}
theorem op_l (h : at_ σ i = some v) (h2 : rvC v = some rv) (h3 : opD o [rv] = some w) : evE gl cs (.op o (.cons (.lend i) .nil)) lk σ s = some (w, σ, s) := by
  have e1 : evAs gl cs (.cons (.lend i) .nil) lk σ s = some ([.sl i], σ, s) := by
    show (at_ σ i).bind _ = _
    rw [h]; rfl
  have e2 : resolve σ [.sl i] = some [rv] := by
    show ((at_ σ i).bind rvC).bind _ = _
    rw [h]
    show (rvC v).bind _ = _
    rw [h2]; rfl
  show (evAs gl cs (.cons (.lend i) .nil) lk σ s).bind _ = _
  rw [e1]
  show (resolve σ [.sl i]).bind _ = _
  rw [e2]
  show (opD o [rv]).map _ = _
  rw [h3]; rfl
theorem op_ld (h : at_ σ i = some v) (nl : notLend b = true) (hb : evE gl cs b lk σ s = some (u, σ1, s1)) (hf : frz u = some y) (h1 : at_ σ1 i = some v) (h2 : rvC v = some rv) (h3 : opD o [rv, .d y] = some w) :
    evE gl cs (.op o (.cons (.lend i) (.cons b .nil))) lk σ s = some (w, σ1, s1) := by
  have e1 : evAs gl cs (.cons (.lend i) (.cons b .nil)) lk σ s = some ([.sl i, .d y], σ1, s1) := by
    show (at_ σ i).bind _ = _
    rw [h]
    show (evAs gl cs (.cons b .nil) lk σ s).map _ = _
    rw [evAs_nl nl hb hf]; rfl
  have e2 : resolve σ1 [.sl i, .d y] = some [rv, .d y] := by
    show ((at_ σ1 i).bind rvC).bind _ = _
    rw [h1]
    show (rvC v).bind _ = _
    rw [h2]; rfl
  show (evAs gl cs (.cons (.lend i) (.cons b .nil)) lk σ s).bind _ = _
  rw [e1]
  show (resolve σ1 [.sl i, .d y]).bind _ = _
  rw [e2]
  show (opD o [rv, .d y]).map _ = _
  rw [h3]; rfl
theorem op_ll (h : at_ σ i = some v) (h1 : at_ σ j = some u) (h2 : rvC v = some rv) (h2' : rvC u = some rv2) (h3 : opD o [rv, rv2] = some w) :
    evE gl cs (.op o (.cons (.lend i) (.cons (.lend j) .nil))) lk σ s = some (w, σ, s) := by
  have e1 : evAs gl cs (.cons (.lend i) (.cons (.lend j) .nil)) lk σ s = some ([.sl i, .sl j], σ, s) := by
    show (at_ σ i).bind _ = _
    rw [h]
    show ((at_ σ j).bind _).map _ = _
    rw [h1]; rfl
  have e2 : resolve σ [.sl i, .sl j] = some [rv, rv2] := by
    show ((at_ σ i).bind rvC).bind _ = _
    rw [h]
    show (rvC v).bind _ = _
    rw [h2]
    show (((at_ σ j).bind rvC).bind _).map _ = _
    rw [h1]
    show ((rvC u).bind _).map _ = _
    rw [h2']; rfl
  show (evAs gl cs (.cons (.lend i) (.cons (.lend j) .nil)) lk σ s).bind _ = _
  rw [e1]
  show (resolve σ [.sl i, .sl j]).bind _ = _
  rw [e2]
  show (opD o [rv, rv2]).map _ = _
  rw [h3]; rfl
theorem ite_t (h : evT gl cs c lk σ s = some (true, σ1, s1)) : evE gl cs (.ite c a b) lk σ s = evE gl cs a lk σ1 s1 := by
  show (evT gl cs c lk σ s).bind _ = _
  rw [h]; rfl
theorem ite_f (h : evT gl cs c lk σ s = some (false, σ1, s1)) : evE gl cs (.ite c a b) lk σ s = evE gl cs b lk σ1 s1 := by
  show (evT gl cs c lk σ s).bind _ = _
  rw [h]; rfl
end
theorem eq_ii (a b : Nat) : opD .eq [.d (iD a), .d (iD b)] = some (.v (.bool (decide (a = b)))) := by
  have h : opD .eq [.d (iD a), .d (iD b)] = if SeqAt.shaped (iD a) && SeqAt.shaped (iD b) then vb (PyData.eqv (iD a) (iD b)) else none := rfl
  rw [h, shaped_i, shaped_i, eqv_i]
  rfl
theorem call13 {n m : Nat} {s : Src} (hn : 1 ≤ n) (hn2 : n ≤ 100) (hs : s.cells.length ≤ 100) : ∃ (qs : List Nat) (s' : Src), cl (m + 3) 13 [.s, .v (.int n)] s = some (.v (.tuple (nD qs)), s') ∧ qs.Perm (List.range n) ∧ s'.cells.length ≤ 100 := by
  obtain ⟨w, s1, c, hw, l1⟩ := draw (m := m + 1) (σ := [some .s, some (.v (.int n)), none, none, none, none]) (s := s) (e := .con (.int 4)) rfl rfl rfl (by decide) (by decide) hs
  have r1 : evE noGl (cl (m + 2)) (.op .lstR1 (.cons (.lend 1) .nil)) [] [some .s, some (.v (.int n)), none, none, none, none] s1 = some (.l (nD (List.range n)), [some .s, some (.v (.int n)), none, none, none, none], s1) := by
    have q : opD .lstR1 [.d (iD n)] = some (.l (nD (List.range n))) := by
      have h : opD .lstR1 [.d (iD n)] = (rng1 (n : Int)).map Ct.l := rfl
      rw [h, rng1_n (by omega)]; rfl
    exact op_l (v := .v (iD n)) rfl rfl q
  have p1 := par_eq (ts := .cons (.tname 2) (.cons (.tname 3) .nil)) (lk := []) (cs_cons c (cs_cons r1 cs_nil)) (σ2 := [some .s, some (.v (.int n)), some (.v (.int w)), some (.l (nD (List.range n))), none, none]) (s2 := s1) rfl
  rw [run (d := d13) rfl rfl rfl]
  show ∃ (qs : List Nat) (s' : Src), outC (evSs noGl (cl (m + 2)) (.cons (.par _ _) (.cons (.if_ _ _ _) _)) [] [some .s, some (.v (.int n)), none, none, none, none] s) = _ ∧ _
  rw [ss_nx p1]
  by_cases h2 : w < 2
  · obtain ⟨qs, s', c2, pm, l2⟩ := call12 (m := m) (ps := List.range n) (s := s1) (by simpa using hn2) l1
    refine ⟨qs, s', ?_, pm, l2⟩
    have t : evT noGl (cl (m + 2)) (.tru (.op .lt (.cons (.lend 2) (.cons (.con (.int 2)) .nil)))) [] [some .s, some (.v (.int n)), some (.v (.int w)), some (.l (nD (List.range n))), none, none] s1 = some (true, [some .s, some (.v (.int n)), some (.v (.int w)), some (.l (nD (List.range n))), none, none], s1) := by
      simp [evSs, evS, evT, evE, evDs, evAs, evG, evCs, evI, putT, putTs, bindT, bindTs, at_, frz, resolve, res1, rvC, opD, op1, op2, ixD, vi, vb, toGa, itemsD, outC, startS, slotG, lentIx, lent, lenD, intD, addD, truD, isOrd, cmpI]
      omega
    have e : evE noGl (cl (m + 2)) (.call 12 (.cons (.var 0) (.cons (.var 3) .nil))) [] [some .s, some (.v (.int n)), some (.v (.int w)), some (.l (nD (List.range n))), none, none] s1 = some (.l (nD qs), [some .s, some (.v (.int n)), some (.v (.int w)), some (.v (.list (nD (List.range n)))), none, none], s') :=
      call_eq (g_v rfl rfl rfl (g_v rfl rfl rfl g_nl)) c2
    rw [ss_rt (v := .v (.tuple (nD qs))) (σ1 := [some .s, some (.v (.int n)), some (.v (.int w)), some (.v (.list (nD (List.range n)))), none, none]) (s1 := s') ((if_t t).trans (ss_rt (ret_eq (op1e rfl e rfl rfl) (by simp))))]
    rfl
  · have t : evT noGl (cl (m + 2)) (.tru (.op .lt (.cons (.lend 2) (.cons (.con (.int 2)) .nil)))) [] [some .s, some (.v (.int n)), some (.v (.int w)), some (.l (nD (List.range n))), none, none] s1 = some (false, [some .s, some (.v (.int n)), some (.v (.int w)), some (.l (nD (List.range n))), none, none], s1) := by
      simp [evSs, evS, evT, evE, evDs, evAs, evG, evCs, evI, putT, putTs, bindT, bindTs, at_, frz, resolve, res1, rvC, opD, op1, op2, ixD, vi, vb, toGa, itemsD, outC, startS, slotG, lentIx, lent, lenD, intD, addD, truD, isOrd, cmpI]
      omega
    rw [ss_nx (σ1 := [some .s, some (.v (.int n)), some (.v (.int w)), some (.l (nD (List.range n))), none, none]) (s1 := s1) ((if_f t).trans rfl)]
    -- turned round or not
    have key3 : ∃ row : List Nat, row.Perm (List.range n) ∧ evE noGl (cl (m + 2)) (.ite (.tru (.op .eq (.cons (.lend 2) (.cons (.con (.int 3)) .nil)))) (.op .rev (.cons (.lend 3) .nil)) (.mv 3)) [] [some .s, some (.v (.int n)), some (.v (.int w)), some (.l (nD (List.range n))), none, none] s1 = some (.l (nD row), (if w = 3 then [some .s, some (.v (.int n)), some (.v (.int w)), some (.l (nD (List.range n))), none, none] else [some .s, some (.v (.int n)), some (.v (.int w)), none, none, none]), s1) := by
      have sh := shaped_i (w : Int)
      have sh3 := shaped_i 3
      have ev := eqv_i w 3
      simp only [iD] at ev
      by_cases h3 : w = 3
      · subst h3
        refine ⟨(List.range n).reverse, List.reverse_perm _, ?_⟩
        have q : evT noGl (cl (m + 2)) (.tru (.op .eq (.cons (.lend 2) (.cons (.con (.int 3)) .nil)))) [] [some .s, some (.v (.int n)), some (.v (.int ((3 : Nat) : Int))), some (.l (nD (List.range n))), none, none] s1 = some (true, [some .s, some (.v (.int n)), some (.v (.int ((3 : Nat) : Int))), some (.l (nD (List.range n))), none, none], s1) := by
          exact tru_eq (t := true) (op_ld (v := .v (iD 3)) (u := .v (iD 3)) rfl rfl rfl rfl rfl rfl (eq_ii 3 3))
        rw [ite_t q, op_l (v := .l (nD (List.range n))) (rv := .d (.list (nD (List.range n)))) (w := .l (nD (List.range n)).reverse) rfl rfl rfl]
        simp [nD]
      · refine ⟨List.range n, List.Perm.refl _, ?_⟩
        have q : evT noGl (cl (m + 2)) (.tru (.op .eq (.cons (.lend 2) (.cons (.con (.int 3)) .nil)))) [] [some .s, some (.v (.int n)), some (.v (.int w)), some (.l (nD (List.range n))), none, none] s1 = some (false, [some .s, some (.v (.int n)), some (.v (.int w)), some (.l (nD (List.range n))), none, none], s1) := by
          have h := eq_ii w 3
          rw [decide_eq_false h3] at h
          exact tru_eq (t := false) (op_ld (v := .v (iD w)) (u := .v (iD 3)) rfl rfl rfl rfl rfl rfl h)
        rw [ite_f q, if_neg h3]
        rfl
    obtain ⟨row, pm, e3⟩ := key3
    have a3 := asg_nm (i := 3) (lk := []) e3 (by split <;> rfl) (by simp)
    have σ3e : (if w = 3 then [some Ct.s, some (Ct.v (.int n)), some (.v (.int w)), some (.l (nD (List.range n))), none, none] else [some .s, some (.v (.int n)), some (.v (.int w)), none, none, none]).set 3 (some (.l (nD row))) = [some .s, some (.v (.int n)), some (.v (.int w)), some (.l (nD row)), none, none] := by
      split <;> rfl
    rw [σ3e] at a3
    rw [ss_nx a3]
    -- some swaps
    have hrow : row.length = n := by rw [pm.length_eq]; simp
    have loop : 1 < n → ∀ (ds : List D) (row : List Nat) (s : Src) (x y : Option Ct), row.length = n → s.cells.length ≤ 100 →
        ∃ (row' : List Nat) (s' : Src) (x' y' : Option Ct), walk (bindT (.tname 4) []) (evSs noGl (cl (m + 2)) (.cons (.asg (.tname 5) (.call 10 (.cons (.var 0) (.cons (.op .sub (.cons (.lend 1) (.cons (.con (.int 1)) .nil))) .nil)))) (.cons (.par (.cons (.tsub 3 (.var 5)) (.cons (.tsub 3 (.op .add (.cons (.lend 5) (.cons (.con (.int 1)) .nil)))) .nil)) (.cons (.op .ix (.cons (.lend 3) (.cons (.op .add (.cons (.lend 5) (.cons (.con (.int 1)) .nil))) .nil))) (.cons (.op .ix (.cons (.lend 3) (.cons (.lend 5) .nil))) .nil))) .nil)) []) ds [some .s, some (.v (.int n)), some (.v (.int w)), some (.l (nD row)), x, y] s = some (.nx, [some .s, some (.v (.int n)), some (.v (.int w)), some (.l (nD row')), x', y'], s') ∧ row'.Perm row ∧ s'.cells.length ≤ 100 := by
      intro h1 ds
      induction ds with
      | nil => intro row s x y _ hs; exact ⟨row, s, x, y, rfl, List.Perm.refl _, hs⟩
      | cons d ds ih =>
        intro row s x y hr hs
        obtain ⟨k, s2, c, hk, l2⟩ := draw (m := m + 1) (σ := [some .s, some (.v (.int n)), some (.v (.int w)), some (.l (nD row)), some (.v d), y]) (s := s) (e := .op .sub (.cons (.lend 1) (.cons (.con (.int 1)) .nil))) rfl rfl (sub_one rfl) (by omega) (by omega) hs
        obtain ⟨row', s', x', y', e, pm, l3⟩ := ih (swapL row k) s2 (some (.v d)) (some (.v (.int k))) (by rw [swapL_len]; exact hr) l2
        refine ⟨row', s', x', y', ?_, pm.trans (swapL_perm row k), l3⟩
        have ps := par_swap (m := m + 2) (k := k) (row := nD row) (a0 := some .s) (a1 := some (.v (.int n))) (a2 := some (.v (.int w))) (x := some (.v d)) (s := s2) (by simp [nD]; omega)
        rw [show swapL (nD row) k = nD (swapL row k) from swapL_map _ _ _] at ps
        rw [walk_nx (σ1 := [some .s, some (.v (.int n)), some (.v (.int w)), some (.l (nD row)), some (.v d), y]) (σ2 := [some .s, some (.v (.int n)), some (.v (.int w)), some (.l (nD (swapL row k))), some (.v d), some (.v (.int k))]) (s2 := s2) rfl ((ss_nx (asg_nm c rfl (by simp))).trans ((ss_nx ps).trans rfl))]
        exact e
    obtain ⟨q, s2, c, hq, l2⟩ := draw (m := m + 1) (σ := [some .s, some (.v (.int n)), some (.v (.int w)), some (.l (nD row)), none, none]) (s := s1) (e := .con (.int 5)) rfl rfl rfl (by decide) (by decide) l1
    have g1 := gt_one (m := m + 2) (n := n) (σ := [some .s, some (.v (.int n)), some (.v (.int w)), some (.l (nD row)), none, none]) (s := s2) rfl
    have ml : opD .mul [.d (.int (q : Int)), .d (.int (if 1 < n then 1 else 0))] = some (.v (.int ((if 1 < n then q else 0 : Nat) : Int))) := by
      by_cases h1 : 1 < n
      · simp [opD, op2, mulD, mulOk, vi, h1]
      · simp [opD, op2, mulD, mulOk, vi, h1]
    have hI := irng1_eq (lk := []) (op2e rfl c rfl rfl g1 rfl ml) (rng1_n (n := if 1 < n then q else 0) (by split <;> omega))
    have hL : ∃ (row' : List Nat) (s' : Src) (x' y' : Option Ct), walk (bindT (.tname 4) []) (evSs noGl (cl (m + 2)) (.cons (.asg (.tname 5) (.call 10 (.cons (.var 0) (.cons (.op .sub (.cons (.lend 1) (.cons (.con (.int 1)) .nil))) .nil)))) (.cons (.par (.cons (.tsub 3 (.var 5)) (.cons (.tsub 3 (.op .add (.cons (.lend 5) (.cons (.con (.int 1)) .nil)))) .nil)) (.cons (.op .ix (.cons (.lend 3) (.cons (.op .add (.cons (.lend 5) (.cons (.con (.int 1)) .nil))) .nil))) (.cons (.op .ix (.cons (.lend 3) (.cons (.lend 5) .nil))) .nil))) .nil)) []) (nD (List.range (if 1 < n then q else 0))) [some .s, some (.v (.int n)), some (.v (.int w)), some (.l (nD row)), none, none] s2 = some (.nx, [some .s, some (.v (.int n)), some (.v (.int w)), some (.l (nD row')), x', y'], s') ∧ row'.Perm row ∧ s'.cells.length ≤ 100 := by
      by_cases h1 : 1 < n
      · exact loop h1 _ row s2 none none hrow l2
      · rw [if_neg h1]
        exact ⟨row, s2, none, none, rfl, List.Perm.refl _, l2⟩
    obtain ⟨row', s', x', y', e, pm2, l3⟩ := hL
    refine ⟨row', s', ?_, pm2.trans pm, l3⟩
    rw [ss_nx ((for_eq hI).trans e)]
    rfl
end GW.Law

namespace GW.Law
open PySem GW

theorem swapL_eq {α : Type} {row : List α} {k : Nat} {a b : α} (h : row[k]? = some a) (h2 : row[k + 1]? = some b) : swapL row k = (row.set k b).set (k + 1) a := by
  unfold swapL
  rw [h, h2]
theorem swap_twice {α : Type} (row : List α) (k : Nat) : swapL (swapL row k) k = row := by
  cases h : row[k]? with
  | none => unfold swapL; simp [h]
  | some a =>
    cases h2 : row[k + 1]? with
    | none => unfold swapL; simp [h, h2]
    | some b =>
      have l1 := (List.getElem?_eq_some_iff.mp h2).1
      have e : swapL row k = (row.set k b).set (k + 1) a := swapL_eq h h2
      have g1 : (swapL row k)[k]? = some b := by rw [e]; simp [List.getElem?_set]; omega
      have g2 : (swapL row k)[k + 1]? = some a := by rw [e]; simp [List.getElem?_set]; omega
      have e2 : swapL (swapL row k) k = ((swapL row k).set k a).set (k + 1) b := swapL_eq g1 g2
      rw [e2, e]
      apply List.ext_getElem?
      intro i
      by_cases c1 : i = k
      · subst c1
        simp [List.getElem?_set, h]; omega
      · by_cases c2 : i = k + 1
        · subst c2
          simp [List.getElem?_set, h2]; omega
        · simp [List.getElem?_set, Ne.symm c1, Ne.symm c2]
theorem led_app {α : Type} (row : List α) (a b : List Nat) : ledL row (a ++ b) = ledL (ledL row a) b := by
  unfold ledL
  rw [List.foldl_append]
theorem led_back {α : Type} : ∀ (w : List Nat) (row : List α), ledL row (w ++ w.reverse) = row
  | [], row => rfl
  | k :: w, row => by
    have e : k :: w ++ (k :: w).reverse = k :: ((w ++ w.reverse) ++ [k]) := by simp
    rw [e]
    show ledL (swapL row k) ((w ++ w.reverse) ++ [k]) = row
    rw [led_app, led_back w]
    show swapL (swapL row k) k = row
    exact swap_twice row k
theorem led_perm {α : Type} (w : List Nat) : ∀ row : List α, (ledL row w).Perm row := by
  induction w with
  | nil => intro row; exact List.Perm.refl _
  | cons k w ih => intro row; exact (ih (swapL row k)).trans (swapL_perm row k)
theorem range_get (ps : List Nat) (n : Nat) (h : ps.length = n) : (List.range n).map (fun k => ps.getD k 0) = ps := by
  apply List.ext_getElem?
  intro i
  by_cases hi : i < n
  · rw [List.getElem?_map, List.getElem?_range hi]
    have hi' : i < ps.length := by omega
    simp [List.getD, List.getElem?_eq_getElem hi']
  · rw [List.getElem?_eq_none (by simp; omega), List.getElem?_eq_none (by omega)]
theorem led_as (ps ks : List Nat) (n : Nat) (h : ps.length = n) : ledL ps ks = (ledL (List.range n) ks).map fun k => ps.getD k 0 := by
  rw [← ledL_map, range_get ps n h]
theorem idx_of {ps : List Nat} (nd : ps.Nodup) : ∀ {i t : Nat}, ps[i]? = some t → ps.idxOf t = i := by
  induction ps with
  | nil => intro i t h; simp at h
  | cons p ps ih =>
    intro i t h
    have nd' := List.nodup_cons.mp nd
    cases i with
    | zero =>
      simp at h
      subst h
      simp
    | succ i =>
      have h' : ps[i]? = some t := by simpa using h
      have hne : p ≠ t := fun z => nd'.1 (z ▸ List.mem_of_getElem? h')
      rw [List.idxOf_cons, beq_eq_false_iff_ne.mpr hne]
      show ps.idxOf t + 1 = i + 1
      rw [ih nd'.2 h']
theorem get_idx {ps : List Nat} {t : Nat} (h : t ∈ ps) : ps[ps.idxOf t]? = some t := by
  induction ps with
  | nil => simp at h
  | cons p ps ih =>
    by_cases e : p = t
    · subst e; simp
    · rw [List.idxOf_cons, beq_eq_false_iff_ne.mpr e]
      show (p :: ps)[ps.idxOf t + 1]? = some t
      simpa using ih ((List.mem_cons.mp h).resolve_left (Ne.symm e))
theorem led_inv (n : Nat) (w : List Nat) : ledL (List.range n) w.reverse = invN n (ledL (List.range n) w) := by
  have pm := led_perm w (List.range n)
  have nd : (ledL (List.range n) w).Nodup := pm.nodup_iff.mpr List.nodup_range
  have hl : (ledL (List.range n) w).length = n := by rw [ledL_len]; simp
  have e := led_as (ledL (List.range n) w) w.reverse n hl
  rw [← led_app, led_back] at e
  have hq : (ledL (List.range n) w.reverse).length = n := by rw [ledL_len]; simp
  apply List.ext_getElem?
  intro t
  by_cases ht : t < n
  · obtain ⟨q, hq'⟩ : ∃ q, (ledL (List.range n) w.reverse)[t]? = some q := ⟨_, List.getElem?_eq_getElem (by omega)⟩
    have e' : (List.range n)[t]? = some ((ledL (List.range n) w).getD q 0) := by
      have := congrArg (fun l : List Nat => l[t]?) e
      simp only [List.getElem?_map, hq'] at this
      exact this
    rw [List.getElem?_range ht] at e'
    have e2 : t = (ledL (List.range n) w).getD q 0 := Option.some.inj e'
    have qn : q < n := by
      have := List.mem_of_getElem? hq'
      have := (led_perm w.reverse (List.range n)).mem_iff.mp this
      simpa using this
    have e3 : (ledL (List.range n) w)[q]? = some t := by
      rw [List.getElem?_eq_getElem (by omega)]
      rw [e2]
      simp [List.getD, List.getElem?_eq_getElem (show q < (ledL (List.range n) w).length by omega)]
    rw [hq']
    unfold invN
    rw [List.getElem?_map, List.getElem?_range ht]
    show some q = some ((ledL (List.range n) w).idxOf t)
    rw [idx_of nd e3]
  · rw [List.getElem?_eq_none (by omega), List.getElem?_eq_none (by simp [invN]; omega)]
theorem inv_len (n : Nat) (ps : List Nat) : (invN n ps).length = n := by simp [invN]
theorem inv_left {n : Nat} {ps : List Nat} (pm : ps.Perm (List.range n)) : (invN n ps).map (fun k => ps.getD k 0) = List.range n := by
  unfold invN
  rw [List.map_map]
  apply List.ext_getElem?
  intro t
  by_cases ht : t < n
  · rw [List.getElem?_map, List.getElem?_range ht]
    have := get_idx (pm.mem_iff.mpr (by simpa using ht : t ∈ List.range n))
    show some (ps.getD (ps.idxOf t) 0) = some t
    simp [List.getD, this]
  · rw [List.getElem?_eq_none (by simp; omega), List.getElem?_eq_none (by simp; omega)]
theorem inv_right {n : Nat} {ps : List Nat} (pm : ps.Perm (List.range n)) : ps.map (fun k => (invN n ps).getD k 0) = List.range n := by
  have nd : ps.Nodup := pm.nodup_iff.mpr List.nodup_range
  have hl : ps.length = n := by rw [pm.length_eq]; simp
  apply List.ext_getElem?
  intro i
  by_cases hi : i < n
  · obtain ⟨t, ht⟩ : ∃ t, ps[i]? = some t := ⟨_, List.getElem?_eq_getElem (by omega)⟩
    have tn : t < n := by simpa using pm.mem_iff.mp (List.mem_of_getElem? ht)
    rw [List.getElem?_map, ht, List.getElem?_range hi]
    show some ((invN n ps).getD t 0) = some i
    have : (invN n ps)[t]? = some (ps.idxOf t) := by
      unfold invN
      rw [List.getElem?_map, List.getElem?_range tn]; rfl
    simp [List.getD, this, idx_of nd ht]
  · rw [List.getElem?_eq_none (by simp; omega), List.getElem?_eq_none (by simp; omega)]
theorem inv_perm {n : Nat} {ps : List Nat} (pm : ps.Perm (List.range n)) : ∀ k ∈ invN n ps, k < n := by
  intro k hk
  unfold invN at hk
  obtain ⟨t, ht, rfl⟩ := List.mem_map.mp hk
  have hm := pm.mem_iff.mpr ht
  have hl : ps.length = n := by rw [pm.length_eq]; simp
  have := (List.getElem?_eq_some_iff.mp (get_idx hm)).1
  omega
/-- .. as data -/
theorem nD_getD (ps ks : List Nat) (h : ∀ k ∈ ks, k < ps.length) : (ks.map fun k => (nD ps).getD k .none) = nD (ks.map fun k => ps.getD k 0) := by
  show _ = (ks.map _).map iD
  rw [List.map_map]
  apply List.map_congr_left
  intro k hk
  have := h k hk
  simp [List.getD, List.getElem?_eq_getElem this]
theorem log_le (k : Nat) : intRoom (k : Int) ≤ k + 3 := by
  unfold intRoom
  have := Nat.log2_le_self k
  simp
  exact this
theorem room_n : ∀ {ns : List Nat}, (∀ n ∈ ns, n ≤ 1000) → roomAll (nD ns) ≤ 1005 * ns.length
  | [], _ => by simp [roomAll]
  | n :: ns, h => by
    have h1 := room_n (ns := ns) fun k hk => h k (by simp [hk])
    have h2 := h n (by simp)
    have h3 := log_le n
    show room (iD n) + 2 + roomAll (nD ns) ≤ _
    have : room (iD n) = intRoom (n : Int) := by simp [room]
    rw [this, List.length_cons]
    omega
def RowD (d : D) : Prop := ∃ ns : List Nat, (d = .tuple (nD ns) ∨ d = .list (nD ns)) ∧ ns.length ≤ 100 ∧ ∀ n ∈ ns, n ≤ 1000
theorem show_n : ∀ {ns : List Nat}, (∀ n ∈ ns, n ≤ 1000) → PyData.showableAll (nD ns) = true ∧ PyData.hasDictAll (nD ns) = false
  | [], _ => by simp [PyData.showableAll, PyData.hasDictAll]
  | n :: ns, h => by
    have := show_n (ns := ns) fun k hk => h k (by simp [hk])
    have hn := h n (by simp)
    have hl := Nat.log2_le_self n
    have hb : n.log2 < 1920 := by omega
    simp only [nD, List.map_cons, PyData.showableAll, PyData.hasDictAll] at this ⊢
    simp [PyData.showable, PyData.hasDict, this, hb]
theorem row_facts {d : D} (h : RowD d) : d.showable = true ∧ d.hasDict = false ∧ d.canLay0 = true ∧ d.depth ≤ 2 ∧ room d ≤ 100503 := by
  obtain ⟨ns, hd, h1, h2⟩ := h
  have a := show_n h2
  have b := lay_n ns
  have c := depth_n ns
  have e := room_n h2
  have e' : roomAll (nD ns) ≤ 100500 := by omega
  rcases hd with rfl | rfl
  · refine ⟨by simp [PyData.showable, a.1], by simp [PyData.hasDict, a.2], by simp [PyData.canLay0, b], by simp only [PyData.depth]; omega, ?_⟩
    simp only [room]; omega
  · refine ⟨by simp [PyData.showable, a.1], by simp [PyData.hasDict, a.2], by simp [PyData.canLay0, b], by simp only [PyData.depth]; omega, ?_⟩
    simp only [room]; omega
theorem can_row {d : D} (h : RowD d) : canShow d = true := by
  obtain ⟨h1, h2, h3, h4, h5⟩ := row_facts h
  unfold canShow SeqAt.shaped
  rw [h1, h2, h3, show fits (room d) = true from decide_eq_true (by rw [sizeLine_eq]; omega)]
  simp
  omega
theorem rows_facts : ∀ {ds : List D}, (∀ d ∈ ds, RowD d) → PyData.showableAll ds = true ∧ PyData.hasDictAll ds = false ∧ PyData.canLayAll0 ds = true ∧ PyData.depthAll ds ≤ 2 ∧ roomAll ds ≤ 100505 * ds.length
  | [], _ => by simp [PyData.showableAll, PyData.hasDictAll, PyData.canLayAll0, PyData.depthAll, roomAll]
  | d :: ds, h => by
    obtain ⟨a1, a2, a3, a4, a5⟩ := rows_facts (ds := ds) fun x hx => h x (by simp [hx])
    obtain ⟨h1, h2, h3, h4, h5⟩ := row_facts (h d (by simp))
    refine ⟨by simp [PyData.showableAll, h1, a1], by simp [PyData.hasDictAll, h2, a2], by simp [PyData.canLayAll0, h3, a3], by simp only [PyData.depthAll]; omega, ?_⟩
    show room d + 2 + roomAll ds ≤ _
    rw [List.length_cons]; omega
theorem can_rows {ds : List D} (h : ∀ d ∈ ds, RowD d) (hl : ds.length ≤ 10) : canShow (.list ds) = true := by
  obtain ⟨a1, a2, a3, a4, a5⟩ := rows_facts h
  have hr : room (.list ds) ≤ 1005060 := by
    simp only [room]; omega
  unfold canShow SeqAt.shaped
  rw [show (PyData.list ds).showable = true by simp [PyData.showable, a1], show (PyData.list ds).hasDict = false by simp [PyData.hasDict, a2], show (PyData.list ds).canLay0 = true by simp [PyData.canLay0, a3],
    show fits (room (.list ds)) = true from decide_eq_true (by rw [sizeLine_eq]; omega), show decide ((PyData.list ds).depth ≤ 64) = true from decide_eq_true (by simp only [PyData.depth]; omega)]
  rfl
theorem ok_of (x : String) : PyData.strOk (Str.ofString x) = true := by
  unfold PyData.strOk
  rw [Str.ofString_eq_toList, ← Array.all_toList]
  simp only [List.all_eq_true, decide_eq_true_eq]
  intro c hc
  obtain ⟨ch, _, rfl⟩ := List.mem_map.mp (by simpa using hc)
  have h := ch.valid
  have e : ch.toNat = ch.val.toNat := rfl
  rcases h with h | h
  · have : ch.val.toNat < 0xd800 := h
    omega
  · have : ch.val.toNat < 0x110000 := h.2
    omega
theorem ok_app {x y : Str} (h : PyData.strOk x = true) (h2 : PyData.strOk y = true) : PyData.strOk (x ++ y) = true := by
  unfold PyData.strOk at *
  show (x.cps ++ y.cps).all _ = true
  rw [Array.all_append, h, h2]
  rfl
theorem ok_from : ∀ (ts : List Str) (k : Nat) (acc : Str), PyData.strOk acc = true → (∀ t ∈ ts, PyData.strOk t = true) → PyData.strOk (textFrom k acc ts) = true
  | [], _, acc, h, _ => h
  | t :: ts, k, acc, h, h2 => ok_from ts (k + 1) _ (ok_app (ok_app h (ok_of _)) (h2 t (by simp))) fun x hx => h2 x (by simp [hx])
theorem ok_join : ∀ (ts : List Str), (∀ t ∈ ts, PyData.strOk t = true) → PyData.strOk (Str.join ", " ts) = true
  | [], _ => ok_of ""
  | [x], h => h x (by simp)
  | x :: y :: r, h => by
    have ih := ok_join (y :: r) fun t ht => h t (by simp at ht ⊢; right; exact ht)
    show PyData.strOk (x ++ (", " : Str) ++ Str.join ", " (y :: r)) = true
    exact ok_app (ok_app (h x (by simp)) (ok_of _)) ih
theorem ok_n : ∀ (ns : List Nat), ∀ t ∈ PyData.shownAll (nD ns), PyData.strOk t = true
  | [], t, h => by simp [PyData.shownAll] at h
  | n :: ns, t, h => by
    have h' : t ∈ PyData.shown (iD n) :: PyData.shownAll (nD ns) := by simpa [PyData.shownAll] using h
    rcases List.mem_cons.mp h' with rfl | h'
    · simp only [PyData.shown]
      exact ok_of _
    · exact ok_n ns t h'
theorem ok_row {d : D} (h : RowD d) : PyData.strOk d.shown = true := by
  obtain ⟨ns, hd, _, _⟩ := h
  rcases hd with rfl | rfl
  · simp only [PyData.shown, tupleText]
    exact ok_app (ok_app (ok_of _) (ok_join _ (ok_n ns))) (ok_of _)
  · simp only [PyData.shown, listText]
    exact ok_app (ok_from _ _ _ (ok_of _) (ok_n ns)) (ok_of _)
theorem ok_rows {ds : List D} (h : ∀ d ∈ ds, RowD d) : PyData.strOk (PyData.list ds).shown = true := by
  have key : ∀ (ds : List D), (∀ d ∈ ds, RowD d) → ∀ t ∈ PyData.shownAll ds, PyData.strOk t = true := by
    intro ds
    induction ds with
    | nil => intro _ t ht; simp [PyData.shownAll] at ht
    | cons d ds ih =>
      intro h t ht
      have ht' : t ∈ PyData.shown d :: PyData.shownAll ds := by simpa [PyData.shownAll] using ht
      rcases List.mem_cons.mp ht' with rfl | ht'
      · exact ok_row (h d (by simp))
      · exact ih (fun x hx => h x (by simp [hx])) t ht'
  simp only [PyData.shown, listText]
  exact ok_app (ok_from _ _ _ (ok_of _) (key ds h)) (ok_of _)
section
variable {gl : Nat → Option D} {cs : Nat → List Ga → Src → Option (Ct × Src)} {a b : IR} {lk : List Nat} {σ σ1 σ2 : Sl} {s s1 s2 : Src} {v : Ct} {d : D} {t : Str}
theorem op_repr (h : canShow d = true) : opD .repr [.d d] = some (.v (.str d.shown)) := by
  show (if canShow d = true then some (Ct.v (.str d.shown)) else none) = _
  rw [if_pos h]
theorem shaped_s {t : Str} (h : PyData.strOk t = true) : SeqAt.shaped (.str t) = true := by
  unfold SeqAt.shaped
  simp [PyData.canLay0, PyData.depth, h]
theorem op_ne {t : Str} (h0 : PyData.strOk t = true) : opD .ne [.d (.str t), .d (.str t)] = some (.v (.bool false)) := by
  have h : opD .ne [.d (.str t), .d (.str t)] = if SeqAt.shaped (.str t) && SeqAt.shaped (.str t) then vb (!PyData.eqv (.str t) (.str t)) else none := rfl
  rw [h, shaped_s h0]
  simp [PyData.eqv, vb]
theorem op_eqs {t : Str} (h0 : PyData.strOk t = true) : opD .eq [.d (.str t), .d (.str t)] = some (.v (.bool true)) := by
  have h : opD .eq [.d (.str t), .d (.str t)] = if SeqAt.shaped (.str t) && SeqAt.shaped (.str t) then vb (PyData.eqv (.str t) (.str t)) else none := rfl
  rw [h, shaped_s h0]
  simp [PyData.eqv, vb]
/-- two texts that are one: nothing is wrong -/
theorem chk (ht : PyData.strOk t = true) (na : notLend a = true) (nb : notLend b = true) (h1 : evE gl cs a lk σ s = some (.v (.str t), σ1, s1)) (h2 : evE gl cs b lk σ1 s1 = some (.v (.str t), σ2, s2)) :
    evS gl cs (.if_ (.tru (.op .ne (.cons a (.cons b .nil)))) (.cons (.ret (.con (.bool false))) .nil) .nil) lk σ s = some (.nx, σ2, s2) :=
  (if_f (tru_eq (op2e na h1 rfl nb h2 rfl (op_ne ht)))).trans rfl
end
end GW.Law

namespace GW.Law
open PySem GW

section
variable {gl : Nat → Option D} {cs : Nat → List Ga → Src → Option (Ct × Src)} {a b c r : IR} {lk : List Nat} {σ σ1 σ2 σ3 : Sl} {s s1 s2 s3 : Src} {v u w : Ct} {o : Op} {i j : Nat} {rv rv2 : Rv} {x y : D}
theorem op_dl (nl : notLend a = true) (ha : evE gl cs a lk σ s = some (v, σ1, s1)) (hf : frz v = some x) (h1 : at_ σ1 i = some u) (h2 : rvC u = some rv) (h3 : opD o [.d x, rv] = some w) :
    evE gl cs (.op o (.cons a (.cons (.lend i) .nil))) lk σ s = some (w, σ1, s1) := by
  have e1 : evAs gl cs (.cons a (.cons (.lend i) .nil)) lk σ s = some ([.d x, .sl i], σ1, s1) := by
    rw [evAs_nl nl ha hf]
    show ((at_ σ1 i).bind _).map _ = _
    rw [h1]; rfl
  have e2 : resolve σ1 [.d x, .sl i] = some [.d x, rv] := by
    show (((at_ σ1 i).bind rvC).bind _).map _ = _
    rw [h1]
    show ((rvC u).bind _).map _ = _
    rw [h2]; rfl
  show (evAs gl cs (.cons a (.cons (.lend i) .nil)) lk σ s).bind _ = _
  rw [e1]
  show (resolve σ1 [.d x, .sl i]).bind _ = _
  rw [e2]
  show (opD o [.d x, rv]).map _ = _
  rw [h3]; rfl
theorem and_t {t : Bool} (h : evT gl cs a lk σ s = some (true, σ1, s1)) : evT gl cs (.and a b) lk σ s = evT gl cs b lk σ1 s1 := by
  show (evT gl cs a lk σ s).bind _ = _
  rw [h]; rfl
theorem and_f (h : evT gl cs a lk σ s = some (false, σ1, s1)) : evT gl cs (.and a b) lk σ s = some (false, σ1, s1) := by
  show (evT gl cs a lk σ s).bind _ = _
  rw [h]; rfl
theorem disg_eq {ds : List D} (h : evDs gl cs a lk σ s = some (ds, σ1, s1)) (h2 : disgD ds = some w) : evE gl cs (.disg a) lk σ s = some (w, σ1, s1) := by
  show (evDs gl cs a lk σ s).bind _ = _
  rw [h]
  show (disgD ds).map _ = _
  rw [h2]; rfl
end
theorem ne_ii (a b : Nat) : opD .ne [.d (iD a), .d (iD b)] = some (.v (.bool (!decide (a = b)))) := by
  have h : opD .ne [.d (iD a), .d (iD b)] = if SeqAt.shaped (iD a) && SeqAt.shaped (iD b) then vb (!PyData.eqv (iD a) (iD b)) else none := rfl
  rw [h, shaped_i, shaped_i, eqv_i]
  rfl
abbrev C := cl 12
/-- a draw from slot 1 -/
theorem draw1 {i : Int} {e : IR} {σ : Sl} {s : Src} (v0 : evE noGl C (.var 1) [] σ s = some (.s, σ, s)) (nl : notLend e = true) (he : evE noGl C e [] σ s = some (.v (.int i), σ, s)) (h1 : 1 ≤ i) (h2 : i ≤ 1000) (hs : s.cells.length ≤ 100) :
    ∃ (r : Nat) (s' : Src), evE noGl C (.call 10 (.cons (.var 1) (.cons e .nil))) [] σ s = some (.v (.int r), σ, s') ∧ (r : Int) < i ∧ s'.cells.length ≤ 100 := by
  obtain ⟨r, s', c, h3, h4⟩ := call10 (m := 11) h1 h2 hs
  exact ⟨r, s', call_eq (g_v rfl v0 rfl (g_v nl he rfl g_nl)) c, h3, h4⟩
abbrev S (lap n one other word late kept first k i j due mine back told : Option Ct) : Sl := [none, some .s, lap, n, one, other, word, late, kept, first, k, i, j, due, mine, back, told, none]
theorem rng3_n {n : Nat} (h1 : 1 ≤ n) (h : n ≤ 100) : rng3 ((n : Int) - 1) (-1) (-1) = some (nD (List.range n).reverse) := by
  unfold rng3
  have w1 : within ((n : Int) - 1) = true := by unfold within; simp; omega
  have w2 : within (-1) = true := by decide
  have e : ((n : Int) - 1 - -1).toNat = n := by omega
  rw [e, w1, w2, fits_n (by omega)]
  simp only [Bool.and_true, decide_true, if_true]
  congr 1
  unfold rangeL nD
  apply List.ext_getElem?
  intro i
  by_cases hi : i < n
  · rw [List.getElem?_map, List.getElem?_range hi, List.getElem?_map, List.getElem?_reverse (by simpa using hi)]
    simp only [List.length_range]
    rw [List.getElem?_range (by omega)]
    simp
    omega
  · rw [List.getElem?_eq_none (by simp; omega), List.getElem?_eq_none (by simp; omega)]
theorem rowT {ns : List Nat} (h : ns.length ≤ 100) (h2 : ∀ k ∈ ns, k ≤ 1000) : RowD (.tuple (nD ns)) := ⟨ns, .inl rfl, h, h2⟩
theorem rowL {ns : List Nat} (h : ns.length ≤ 100) (h2 : ∀ k ∈ ns, k ≤ 1000) : RowD (.list (nD ns)) := ⟨ns, .inr rfl, h, h2⟩
theorem rowP {ns : List Nat} {n : Nat} (pm : ns.Perm (List.range n)) (h : n ≤ 12) : RowD (.tuple (nD ns)) :=
  rowT (by rw [pm.length_eq]; simp; omega) fun k hk => by
    have := pm.mem_iff.mp hk
    simp at this
    omega
/-- {i: j, j: i}.get(k, k) -/
def exN (i j k : Nat) : Nat := if k = i then j else if k = j then i else k
theorem disg_n (i j k : Nat) : disgD [iD i, iD j, iD j, iD i, iD k, iD k] = some (.v (iD (exN i j k))) := by
  have h : disgD [iD i, iD j, iD j, iD i, iD k, iD k] = some (.v ((lookK (putKD (putKD [] (Sum.inl (i : Int)) (iD j)) (Sum.inl (j : Int)) (iD i)) (Sum.inl (k : Int))).getD (iD k))) := rfl
  rw [h]
  congr 2
  unfold exN
  by_cases h1 : i = j
  · subst h1
    by_cases h2 : k = i
    · subst h2
      simp [putKD, lookK]
    · have : ¬ (i : Int) = (k : Int) := by omega
      simp [putKD, lookK, h2, this]
  · have h1' : ¬ (i : Int) = (j : Int) := by omega
    by_cases h2 : k = i
    · subst h2
      simp [putKD, lookK, h1']
    · have h2' : ¬ (i : Int) = (k : Int) := by omega
      by_cases h3 : k = j
      · subst h3
        simp [putKD, lookK, h1', h2]
      · have h3' : ¬ (j : Int) = (k : Int) := by omega
        simp [putKD, lookK, h1', h2, h3, h2', h3']
theorem ex_lt {i j k n : Nat} (hi : i < n) (hj : j < n) (hk : k < n) : exN i j k < n := by
  unfold exN
  split
  · exact hj
  · split
    · exact hi
    · exact hk
theorem ex_set {one : List Nat} {n i j a b : Nat} (hl : one.length = n) (hi : one[i]? = some a) (hj : one[j]? = some b) : (one.set i b).set j a = (List.range n).map fun k => one.getD (exN i j k) 0 := by
  have li := (List.getElem?_eq_some_iff.mp hi).1
  have lj := (List.getElem?_eq_some_iff.mp hj).1
  apply List.ext_getElem?
  intro k
  by_cases hk : k < n
  · rw [List.getElem?_map, List.getElem?_range hk]
    show _ = some (one.getD (exN i j k) 0)
    unfold exN
    by_cases h1 : k = i
    · subst h1
      by_cases h2 : k = j
      · subst h2
        rw [hi] at hj
        cases hj
        simp [List.getElem?_set, li, List.getD, hi]
        exact (List.getElem?_eq_some_iff.mp hi).2.symm
      · simp [List.getElem?_set, li, Ne.symm h2, List.getD, hj]
    · by_cases h2 : k = j
      · subst h2
        simp [List.getElem?_set, lj, h1, List.getD, hi]
      · have : k < one.length := by omega
        simp [List.getElem?_set, Ne.symm h1, Ne.symm h2, h1, h2, List.getD, List.getElem?_eq_getElem this]
  · rw [List.getElem?_eq_none (by simp; omega), List.getElem?_eq_none (by simp; omega)]
theorem ok_list {ds : List D} (h : ∀ d ∈ ds, RowD d) (hl : ds.length ≤ 10) : canShow (.list ds) = true ∧ PyData.strOk (PyData.list ds).shown = true := ⟨can_rows h hl, ok_rows h⟩
section
variable {n : Nat} {one other word late first : List Nat} {a2 a3 a4 a5 a6 a7 a8 a9 a10 a11 a12 a13 a14 a15 a16 : Option Ct} {s : Src}
/-- the first rows -/
theorem st4ok (h1 : 1 ≤ n) (h2 : n ≤ 12) : evS noGl C (.if_ (.tru (.op .ne (.cons (.op .repr (.cons (.lst (.cons (.call 1 (.cons (.var 3) .nil)) (.cons (.call 2 (.cons (.var 3) .nil)) .nil))) .nil)) (.cons (.op .repr (.cons (.lst (.cons (.var 9) (.cons (.op .rev (.cons (.lend 9) .nil)) .nil))) .nil)) .nil)))) (.cons (.ret (.con (.bool false))) .nil) .nil) [] (S a2 (some (.v (iD n))) a4 a5 a6 a7 a8 (some (.v (.tuple (nD (List.range n))))) a10 a11 a12 a13 a14 a15 a16) s = some (.nx, S a2 (some (.v (iD n))) a4 a5 a6 a7 a8 (some (.v (.tuple (nD (List.range n))))) a10 a11 a12 a13 a14 a15 a16, s) := by
  have c1 : C 1 [.v (iD n)] s = some (.v (.tuple (nD (List.range n))), s) := call1 (k := 11) (rng1_n (by omega))
  have c2 : C 2 [.v (iD n)] s = some (.v (.tuple (nD (List.range n).reverse)), s) := call2 (k := 11) (rng3_n h1 (by omega))
  have ok := ok_list (ds := [.tuple (nD (List.range n)), .tuple (nD (List.range n).reverse)]) (by
    intro d hd
    simp only [List.mem_cons, List.not_mem_nil, or_false] at hd
    rcases hd with rfl | rfl
    · exact rowP (List.Perm.refl _) h2
    · exact rowP (List.reverse_perm _) h2) (by simp)
  have er : opD .rev [.d (.tuple (nD (List.range n)))] = some (.v (.tuple (nD (List.range n).reverse))) := by
    have h : opD .rev [.d (.tuple (nD (List.range n)))] = some (.v (.tuple (nD (List.range n)).reverse)) := rfl
    rw [h]
    simp [nD]
  exact chk ok.2 rfl rfl (op1e rfl (lst_eq (ds_cons (call_eq (g_v rfl rfl rfl g_nl) c1) rfl (ds_cons (call_eq (g_v rfl rfl rfl g_nl) c2) rfl ds_nil)) (by simp)) rfl (op_repr ok.1))
    (op1e rfl (lst_eq (ds_cons (v := .v (.tuple (nD (List.range n)))) rfl rfl (ds_cons (op_l (v := .v (.tuple (nD (List.range n)))) rfl rfl er) rfl ds_nil)) (by simp)) rfl (op_repr ok.1))
/-- neighbours change places -/
theorem st5ok (pm : one.Perm (List.range n)) (h1 : 1 ≤ n) (h2 : n ≤ 12) : ∃ a10', evS noGl C (.for_ (.irng1 (.op .sub (.cons (.lend 3) (.cons (.con (.int 1)) .nil)))) (.tname 10) (.cons (.if_ (.tru (.op .ne (.cons (.op .repr (.cons (.call 4 (.cons (.var 4) (.cons (.var 10) .nil))) .nil)) (.cons (.op .repr (.cons (.call 15 (.cons (.var 4) (.cons (.tup (.cons (.var 10) .nil)) .nil))) .nil)) .nil)))) (.cons (.ret (.con (.bool false))) .nil) .nil) .nil)) [] (S a2 (some (.v (iD n))) (some (.v (.tuple (nD one)))) a5 a6 a7 a8 a9 a10 a11 a12 a13 a14 a15 a16) s = some (.nx, S a2 (some (.v (iD n))) (some (.v (.tuple (nD one)))) a5 a6 a7 a8 a9 a10' a11 a12 a13 a14 a15 a16, s) ∧ (a10' = a10 ∨ ∃ d, a10' = some (.v d)) := by
  have hl : (nD one).length = n := by simp [pm.length_eq]
  have key : ∀ (ks : List Nat) (a10 : Option Ct), (∀ k ∈ ks, k + 1 < n) → ∃ a10', walk (bindT (.tname 10) []) (evSs noGl C (.cons (.if_ (.tru (.op .ne (.cons (.op .repr (.cons (.call 4 (.cons (.var 4) (.cons (.var 10) .nil))) .nil)) (.cons (.op .repr (.cons (.call 15 (.cons (.var 4) (.cons (.tup (.cons (.var 10) .nil)) .nil))) .nil)) .nil)))) (.cons (.ret (.con (.bool false))) .nil) .nil) .nil) []) (nD ks) (S a2 (some (.v (iD n))) (some (.v (.tuple (nD one)))) a5 a6 a7 a8 a9 a10 a11 a12 a13 a14 a15 a16) s = some (.nx, S a2 (some (.v (iD n))) (some (.v (.tuple (nD one)))) a5 a6 a7 a8 a9 a10' a11 a12 a13 a14 a15 a16, s) ∧ (a10' = a10 ∨ ∃ d, a10' = some (.v d)) := by
    intro ks
    induction ks with
    | nil => intro a10 _; exact ⟨a10, rfl, Or.inl rfl⟩
    | cons k ks ih =>
      intro a10 h
      obtain ⟨a10', e, q⟩ := ih (some (.v (iD k))) fun k' hk => h k' (by simp [hk])
      have hk := h k (by simp)
      have c4 : C 4 [.v (.tuple (nD one)), .v (iD k)] s = some (.v (.tuple (swapL (nD one) k)), s) := call4' (k := 10) (by omega)
      have c15 : C 15 [.v (.tuple (nD one)), .v (.tuple (nD [k]))] s = some (.v (.tuple (ledL (nD one) [k])), s) := call15 (m := 11) (by omega) (by intro k' hk'; simp only [List.mem_singleton] at hk'; subst hk'; omega)
      have es : swapL (nD one) k = nD (swapL one k) := swapL_map _ _ _
      have row : RowD (.tuple (swapL (nD one) k)) := by
        rw [es]
        exact rowP ((swapL_perm one k).trans pm) h2
      refine ⟨a10', ?_, ?_⟩
      · refine Eq.trans (walk_nx (d := iD k) (ds := nD ks) (σ1 := S a2 (some (.v (iD n))) (some (.v (.tuple (nD one)))) a5 a6 a7 a8 a9 (some (.v (iD k))) a11 a12 a13 a14 a15 a16) (σ2 := S a2 (some (.v (iD n))) (some (.v (.tuple (nD one)))) a5 a6 a7 a8 a9 (some (.v (iD k))) a11 a12 a13 a14 a15 a16) (s2 := s) rfl
          ((ss_nx (chk (ok_row row) rfl rfl (op1e rfl (call_eq (g_v rfl rfl rfl (g_v rfl rfl rfl g_nl)) c4) rfl (op_repr (can_row row)))
            (op1e rfl (call_eq (g_v rfl rfl rfl (g_v rfl (tup_eq (ds_cons rfl rfl ds_nil) (by simp)) rfl g_nl)) c15) rfl (op_repr (can_row row))))).trans rfl)) e
      · rcases q with q | q
        · exact Or.inr ⟨_, q⟩
        · exact Or.inr q
  have hI : evI noGl C (.irng1 (.op .sub (.cons (.lend 3) (.cons (.con (.int 1)) .nil)))) [] (S a2 (some (.v (iD n))) (some (.v (.tuple (nD one)))) a5 a6 a7 a8 a9 a10 a11 a12 a13 a14 a15 a16) s = some (nD (List.range (n - 1)), [], S a2 (some (.v (iD n))) (some (.v (.tuple (nD one)))) a5 a6 a7 a8 a9 a10 a11 a12 a13 a14 a15 a16, s) :=
    irng1_eq (j := (n : Int) - 1) (sub_one (m := 12) (i := 3) rfl) (by rw [show (n : Int) - 1 = ((n - 1 : Nat) : Int) by omega]; exact rng1_n (by omega))
  obtain ⟨a10', e, q⟩ := key (List.range (n - 1)) a10 fun k hk => by
    have := List.mem_range.mp hk
    omega
  exact ⟨a10', (for_eq hI).trans e, q⟩
end
end GW.Law

namespace GW.Law
open PySem GW

abbrev S7 (lap n one other word late kept first k i j due mine back told th : Option Ct) : Sl := [none, some .s, lap, n, one, other, word, late, kept, first, k, i, j, due, mine, back, told, th]
theorem free_10 {a10 : Option Ct} (h : a10 = none ∨ ∃ d, a10 = some (.v d)) : (match a10 with | some c => !isOwn c | none => true) = true := by
  rcases h with rfl | ⟨d, rfl⟩ <;> rfl
theorem get_ix {one : List Nat} {k : Nat} (h : k < one.length) : opD .ix [.d (.tuple (nD one)), .d (iD k)] = some (.v (iD (one.getD k 0))) := by
  have hh : opD .ix [.d (.tuple (nD one)), .d (iD k)] = (L2.atI (nD one) (k : Int)).map Ct.v := rfl
  rw [hh, atI_n (nD_get (List.getElem?_eq_getElem h))]
  simp [List.getD, List.getElem?_eq_getElem h]
theorem led_n (ns ks : List Nat) : ledL (nD ns) ks = nD (ledL ns ks) := ledL_map _ _ _
section
variable {n : Nat} {one other word late first : List Nat} {a2 a3 a4 a5 a6 a7 a8 a9 a10 a11 a12 a13 a14 a15 a16 : Option Ct} {s : Src}
/-- the exchange, thing by thing -/
theorem st6ok {i j : Nat} (pm : one.Perm (List.range n)) (h2 : n ≤ 12) (hi : i < n) (hj : j < n) (h10 : a10 = none ∨ ∃ d, a10 = some (.v d)) :
    evS noGl C (.asg (.tname 13) (.op .tuple (.cons (.comp [10] (.irng1 (.var 3)) (.tname 10) .yes (.op .ix (.cons (.lend 4) (.cons (.disg (.cons (.var 11) (.cons (.var 12) (.cons (.var 12) (.cons (.var 11) (.cons (.var 10) (.cons (.var 10) .nil))))))) .nil)))) .nil))) [] (S a2 (some (.v (iD n))) (some (.v (.tuple (nD one)))) a5 a6 a7 a8 a9 a10 (some (.v (iD i))) (some (.v (iD j))) a13 a14 a15 a16) s =
      some (.nx, S a2 (some (.v (iD n))) (some (.v (.tuple (nD one)))) a5 a6 a7 a8 a9 a10 (some (.v (iD i))) (some (.v (iD j))) (some (.v (.tuple (nD ((List.range n).map fun k => one.getD (exN i j k) 0))))) a14 a15 a16, s) := by
  have hl : one.length = n := by rw [pm.length_eq]; simp
  have hI : evI noGl C (.irng1 (.var 3)) [] (S a2 (some (.v (iD n))) (some (.v (.tuple (nD one)))) a5 a6 a7 a8 a9 a10 (some (.v (iD i))) (some (.v (iD j))) a13 a14 a15 a16) s = some (nD (List.range n), [], S a2 (some (.v (iD n))) (some (.v (.tuple (nD one)))) a5 a6 a7 a8 a9 a10 (some (.v (iD i))) (some (.v (iD j))) a13 a14 a15 a16, s) :=
    irng1_eq (j := (n : Int)) rfl (rng1_n (by omega))
  have ht := turns_map (own := [10]) (bind := bindT (.tname 10) []) (cnd := evT noGl C .yes []) (elt := evE noGl C (.op .ix (.cons (.lend 4) (.cons (.disg (.cons (.var 11) (.cons (.var 12) (.cons (.var 12) (.cons (.var 11) (.cons (.var 10) (.cons (.var 10) .nil))))))) .nil))) []) (σ := S a2 (some (.v (iD n))) (some (.v (.tuple (nD one)))) a5 a6 a7 a8 a9 none (some (.v (iD i))) (some (.v (iD j))) a13 a14 a15 a16) (s := s)
    (f := fun d => match d with | .int k => iD (one.getD (exN i j k.toNat) 0) | _ => .none) (ds := nD (List.range n)) (acc := []) (by rw [sizeLine_eq]; simp; omega) (fun d hd => by
      obtain ⟨k, hk, rfl⟩ := List.mem_map.mp hd
      have hk' := List.mem_range.mp hk
      have g := get_ix (one := one) (k := exN i j k) (by rw [hl]; exact ex_lt hi hj hk')
      have d1 : evDs noGl C (.cons (.var 11) (.cons (.var 12) (.cons (.var 12) (.cons (.var 11) (.cons (.var 10) (.cons (.var 10) .nil)))))) [] (S a2 (some (.v (iD n))) (some (.v (.tuple (nD one)))) a5 a6 a7 a8 a9 (some (.v (iD k))) (some (.v (iD i))) (some (.v (iD j))) a13 a14 a15 a16) s = some ([iD i, iD j, iD j, iD i, iD k, iD k], S a2 (some (.v (iD n))) (some (.v (.tuple (nD one)))) a5 a6 a7 a8 a9 (some (.v (iD k))) (some (.v (iD i))) (some (.v (iD j))) a13 a14 a15 a16, s) :=
        ds_cons (v := .v (iD i)) rfl rfl (ds_cons (v := .v (iD j)) rfl rfl (ds_cons (v := .v (iD j)) rfl rfl (ds_cons (v := .v (iD i)) rfl rfl (ds_cons (v := .v (iD k)) rfl rfl (ds_cons (v := .v (iD k)) rfl rfl ds_nil)))))
      have ed := disg_eq d1 (disg_n i j k)
      refine ⟨S a2 (some (.v (iD n))) (some (.v (.tuple (nD one)))) a5 a6 a7 a8 a9 (some (.v (iD k))) (some (.v (iD i))) (some (.v (iD j))) a13 a14 a15 a16, .v (iD (one.getD (exN i j k) 0)), S a2 (some (.v (iD n))) (some (.v (.tuple (nD one)))) a5 a6 a7 a8 a9 (some (.v (iD k))) (some (.v (iD i))) (some (.v (iD j))) a13 a14 a15 a16, rfl, rfl, rfl,
        op_ld (v := .v (.tuple (nD one))) (y := iD (exN i j k)) rfl rfl ed rfl rfl rfl g, by simp [frz], rfl⟩)
  have hown : (([10] : List Nat).all (free (S a2 (some (.v (iD n))) (some (.v (.tuple (nD one)))) a5 a6 a7 a8 a9 a10 (some (.v (iD i))) (some (.v (iD j))) a13 a14 a15 a16)) && (slotsT (.tname 10)).all ([10] : List Nat).contains) = true := by
    rcases h10 with rfl | ⟨d, rfl⟩
    · simp [free, at_, slotsT]
    · simp [free, at_, slotsT, isOwn]
  have hc := comp_eq (lk := []) (own := [10]) hI hown ht
  have hm : [] ++ (nD (List.range n)).map (fun d => match d with | .int k => iD (one.getD (exN i j k.toNat) 0) | _ => .none) = nD ((List.range n).map fun k => one.getD (exN i j k) 0) := by
    simp [nD, Function.comp_def]
  rw [hm] at hc
  exact asg_nm (i := 13) (op1e rfl hc rfl rfl) rfl (by simp)
theorem st7ok {i j : Nat} (pm : one.Perm (List.range n)) (h2 : n ≤ 12) (hi : i < n) (hj : j < n) :
    evS noGl C (.if_ (.and (.tru (.op .ne (.cons (.lend 11) (.cons (.lend 12) .nil)))) (.tru (.op .ne (.cons (.op .repr (.cons (.call 3 (.cons (.var 4) (.cons (.var 11) (.cons (.var 12) .nil)))) .nil)) (.cons (.op .repr (.cons (.lend 13) .nil)) .nil))))) (.cons (.ret (.con (.bool false))) .nil) .nil) [] (S a2 a3 (some (.v (.tuple (nD one)))) a5 a6 a7 a8 a9 a10 (some (.v (iD i))) (some (.v (iD j))) (some (.v (.tuple (nD ((List.range n).map fun k => one.getD (exN i j k) 0))))) a14 a15 a16) s =
      some (.nx, S a2 a3 (some (.v (.tuple (nD one)))) a5 a6 a7 a8 a9 a10 (some (.v (iD i))) (some (.v (iD j))) (some (.v (.tuple (nD ((List.range n).map fun k => one.getD (exN i j k) 0))))) a14 a15 a16, s) := by
  have hl : one.length = n := by rw [pm.length_eq]; simp
  have t1 : evT noGl C (.tru (.op .ne (.cons (.lend 11) (.cons (.lend 12) .nil)))) [] (S a2 a3 (some (.v (.tuple (nD one)))) a5 a6 a7 a8 a9 a10 (some (.v (iD i))) (some (.v (iD j))) (some (.v (.tuple (nD ((List.range n).map fun k => one.getD (exN i j k) 0))))) a14 a15 a16) s = some (!decide (i = j), S a2 a3 (some (.v (.tuple (nD one)))) a5 a6 a7 a8 a9 a10 (some (.v (iD i))) (some (.v (iD j))) (some (.v (.tuple (nD ((List.range n).map fun k => one.getD (exN i j k) 0))))) a14 a15 a16, s) :=
    tru_eq (op_ll (v := .v (iD i)) (u := .v (iD j)) rfl rfl rfl rfl (ne_ii i j))
  by_cases h : i = j
  · rw [decide_eq_true h] at t1
    exact (if_f (and_f t1)).trans rfl
  · rw [decide_eq_false h] at t1
    obtain ⟨a, ga⟩ : ∃ a, one[i]? = some a := ⟨one[i]'(by omega), List.getElem?_eq_getElem (by omega)⟩
    obtain ⟨b, gb⟩ : ∃ b, one[j]? = some b := ⟨one[j]'(by omega), List.getElem?_eq_getElem (by omega)⟩
    have c3 : C 3 [.v (.tuple (nD one)), .v (iD i), .v (iD j)] s = some (.v (.tuple (((nD one).set i (iD b)).set j (iD a))), s) := call3 (k := 11) (nD_get ga) (nD_get gb)
    have es : ((nD one).set i (iD b)).set j (iD a) = nD ((List.range n).map fun k => one.getD (exN i j k) 0) := by
      rw [← ex_set hl ga gb]
      simp [nD, List.map_set]
    rw [es] at c3
    have row : RowD (.tuple (nD ((List.range n).map fun k => one.getD (exN i j k) 0))) := by
      rw [← ex_set hl ga gb]
      have mem : ∀ k ∈ (one.set i b).set j a, k ≤ 1000 := fun k hk => by
        have hk' : k ∈ one ∨ k = a ∨ k = b := by
          rcases List.mem_or_eq_of_mem_set hk with h | h
          · rcases List.mem_or_eq_of_mem_set h with h | h
            · exact Or.inl h
            · exact Or.inr (Or.inr h)
          · exact Or.inr (Or.inl h)
        have inn : k ∈ one := by
          rcases hk' with h | h | h
          · exact h
          · rw [h]; exact List.mem_of_getElem? ga
          · rw [h]; exact List.mem_of_getElem? gb
        have := pm.mem_iff.mp inn
        simp at this
        omega
      exact rowT (by simp; omega) mem
    exact (if_f ((and_t (t := true) t1).trans (tru_eq (op2e rfl (op1e rfl (call_eq (g_v rfl rfl rfl (g_v rfl rfl rfl (g_v rfl rfl rfl g_nl))) c3) rfl (op_repr (can_row row))) rfl rfl (op_l (v := .v (.tuple (nD ((List.range n).map fun k => one.getD (exN i j k) 0)))) rfl rfl (op_repr (can_row row))) rfl (op_ne (ok_row row)))))).trans rfl
/-- words -/
theorem st8ok (h2 : n ≤ 12) (hw : ∀ k ∈ word, k + 1 < n) : evS noGl C (.asg (.tname 14) (.call 15 (.cons (.var 9) (.cons (.var 6) .nil)))) [] (S a2 a3 a4 a5 (some (.v (.tuple (nD word)))) a7 a8 (some (.v (.tuple (nD (List.range n))))) a10 a11 a12 a13 a14 a15 a16) s =
      some (.nx, S a2 a3 a4 a5 (some (.v (.tuple (nD word)))) a7 a8 (some (.v (.tuple (nD (List.range n))))) a10 a11 a12 a13 (some (.v (.tuple (nD (ledL (List.range n) word))))) a15 a16, s) := by
  have c : C 15 [.v (.tuple (nD (List.range n))), .v (.tuple (nD word))] s = some (.v (.tuple (ledL (nD (List.range n)) word)), s) := call15 (m := 11) (by simp; omega) (by simpa using hw)
  rw [led_n] at c
  have e : evE noGl C (.call 15 (.cons (.var 9) (.cons (.var 6) .nil))) [] (S a2 a3 a4 a5 (some (.v (.tuple (nD word)))) a7 a8 (some (.v (.tuple (nD (List.range n))))) a10 a11 a12 a13 a14 a15 a16) s = some (.v (.tuple (nD (ledL (List.range n) word))), S a2 a3 a4 a5 (some (.v (.tuple (nD word)))) a7 a8 (some (.v (.tuple (nD (List.range n))))) a10 a11 a12 a13 a14 a15 a16, s) :=
    call_eq (g_v rfl rfl rfl (g_v rfl rfl rfl g_nl)) c
  exact asg_nm (i := 14) e rfl (by simp)
theorem st9ok (pm : one.Perm (List.range n)) (h2 : n ≤ 12) (hw : ∀ k ∈ word, k + 1 < n) (hw2 : ∀ k ∈ late, k + 1 < n) :
    evS noGl C (.if_ (.tru (.op .ne (.cons (.op .repr (.cons (.lst (.cons (.call 6 (.cons (.var 3) (.cons (.var 6) .nil))) (.cons (.call 5 (.cons (.var 4) (.cons (.var 7) .nil))) (.cons (.call 5 (.cons (.var 4) (.cons (.tup .nil) .nil))) .nil)))) .nil)) (.cons (.op .repr (.cons (.lst (.cons (.var 14) (.cons (.call 15 (.cons (.var 4) (.cons (.var 7) .nil))) (.cons (.var 4) .nil)))) .nil)) .nil)))) (.cons (.ret (.con (.bool false))) .nil) .nil) [] (S a2 (some (.v (iD n))) (some (.v (.tuple (nD one)))) a5 (some (.v (.tuple (nD word)))) (some (.v (.tuple (nD late)))) a8 a9 a10 a11 a12 a13 (some (.v (.tuple (nD (ledL (List.range n) word))))) a15 a16) s =
      some (.nx, S a2 (some (.v (iD n))) (some (.v (.tuple (nD one)))) a5 (some (.v (.tuple (nD word)))) (some (.v (.tuple (nD late)))) a8 a9 a10 a11 a12 a13 (some (.v (.tuple (nD (ledL (List.range n) word))))) a15 a16, s) := by
  have hl : (nD one).length = n := by simp [pm.length_eq]
  have c6 : C 6 [.v (iD n), .v (.tuple (nD word))] s = some (.v (.tuple (ledL (nD (List.range n)) word)), s) := call6 (m := 8) (by omega) hw
  have c5 : C 5 [.v (.tuple (nD one)), .v (.tuple (nD late))] s = some (.v (.tuple (ledL (nD one) late)), s) := call5 (m := 9) (by rw [hl]; exact hw2)
  have c50 : C 5 [.v (.tuple (nD one)), .v (.tuple (nD []))] s = some (.v (.tuple (ledL (nD one) [])), s) := call5 (m := 9) (by simp)
  have c15 : C 15 [.v (.tuple (nD one)), .v (.tuple (nD late))] s = some (.v (.tuple (ledL (nD one) late)), s) := call15 (m := 11) (by omega) (by rw [hl]; exact hw2)
  rw [led_n] at c6 c5 c15
  have ok := ok_list (ds := [.tuple (nD (ledL (List.range n) word)), .tuple (nD (ledL one late)), .tuple (nD one)]) (by
    intro d hd
    simp only [List.mem_cons, List.not_mem_nil, or_false] at hd
    rcases hd with rfl | rfl | rfl
    · exact rowP (led_perm _ _) h2
    · exact rowP ((led_perm _ _).trans pm) h2
    · exact rowP pm h2) (by simp)
  exact chk ok.2 rfl rfl (op1e rfl (lst_eq (ds_cons (call_eq (g_v rfl rfl rfl (g_v rfl rfl rfl g_nl)) c6) rfl (ds_cons (call_eq (g_v rfl rfl rfl (g_v rfl rfl rfl g_nl)) c5) rfl (ds_cons (call_eq (g_v rfl rfl rfl (g_v rfl (tup_eq ds_nil (by simp)) rfl g_nl)) c50) rfl ds_nil))) (by simp)) rfl (op_repr ok.1))
    (op1e rfl (lst_eq (ds_cons (v := .v (.tuple (nD (ledL (List.range n) word)))) rfl rfl (ds_cons (call_eq (g_v rfl rfl rfl (g_v rfl rfl rfl g_nl)) c15) rfl (ds_cons (v := .v (.tuple (nD one))) rfl rfl ds_nil))) (by simp)) rfl (op_repr ok.1))
end
end GW.Law

namespace GW.Law
open PySem GW

theorem find_first {n t : Nat} {one : List Nat} (pm : one.Perm (List.range n)) (ht : t < n) : ((List.range n).filter fun k => decide (one.getD k 0 = t))[0]? = some (one.idxOf t) := by
  have nd : one.Nodup := pm.nodup_iff.mpr List.nodup_range
  have hl : one.length = n := by rw [pm.length_eq]; simp
  have hm : t ∈ one := pm.mem_iff.mpr (by simpa using ht)
  have hx := get_idx hm
  have hlt := (List.getElem?_eq_some_iff.mp hx).1
  have only : ∀ k, k < n → one.getD k 0 = t → k = one.idxOf t := fun k hk e => by
    have g : one[k]? = some t := by
      have hk' : k < one.length := by omega
      rw [List.getElem?_eq_getElem hk']
      have : one.getD k 0 = one[k] := by simp [List.getD, List.getElem?_eq_getElem hk']
      rw [← this, e]
    exact (idx_of nd g).symm
  have inn : one.idxOf t ∈ (List.range n).filter fun k => decide (one.getD k 0 = t) := by
    rw [List.mem_filter]
    refine ⟨by simpa using (by omega : one.idxOf t < n), decide_eq_true ?_⟩
    simp [List.getD, hx]
  cases hf : (List.range n).filter fun k => decide (one.getD k 0 = t) with
  | nil => rw [hf] at inn; simp at inn
  | cons k r =>
    have hk : k ∈ (List.range n).filter fun k => decide (one.getD k 0 = t) := by rw [hf]; simp
    rw [List.mem_filter] at hk
    have := only k (by simpa using hk.1) (of_decide_eq_true hk.2)
    rw [this]; rfl
section
variable {n : Nat} {one other word late first : List Nat} {a2 a3 a4 a5 a6 a7 a8 a9 a10 a11 a12 a13 a14 a15 a16 : Option Ct} {s : Src}
/-- where each thing stands, thing by thing -/
theorem st10ok (pm : one.Perm (List.range n)) (h2 : n ≤ 12) (h10 : a10 = none ∨ ∃ d, a10 = some (.v d)) :
    evS noGl C (.asg (.tname 15) (.op .tuple (.cons (.comp [17] (.irng1 (.var 3)) (.tname 17) .yes (.op .ix (.cons (.comp [10] (.irng1 (.var 3)) (.tname 10) (.tru (.op .eq (.cons (.op .ix (.cons (.lend 4) (.cons (.lend 10) .nil))) (.cons (.lend 17) .nil)))) (.var 10)) (.cons (.con (.int 0)) .nil)))) .nil))) [] (S a2 (some (.v (iD n))) (some (.v (.tuple (nD one)))) a5 a6 a7 a8 a9 a10 a11 a12 a13 a14 a15 a16) s =
      some (.nx, S a2 (some (.v (iD n))) (some (.v (.tuple (nD one)))) a5 a6 a7 a8 a9 a10 a11 a12 a13 a14 (some (.v (.tuple (nD (invN n one))))) a16, s) := by
  have hl : one.length = n := by rw [pm.length_eq]; simp
  have hI : ∀ th, evI noGl C (.irng1 (.var 3)) [] (S7 a2 (some (.v (iD n))) (some (.v (.tuple (nD one)))) a5 a6 a7 a8 a9 a10 a11 a12 a13 a14 a15 a16 th) s = some (nD (List.range n), [], S7 a2 (some (.v (iD n))) (some (.v (.tuple (nD one)))) a5 a6 a7 a8 a9 a10 a11 a12 a13 a14 a15 a16 th, s) := fun th =>
    irng1_eq (j := (n : Int)) rfl (rng1_n (by omega))
  have inner : ∀ t, t < n → evE noGl C (.op .ix (.cons (.comp [10] (.irng1 (.var 3)) (.tname 10) (.tru (.op .eq (.cons (.op .ix (.cons (.lend 4) (.cons (.lend 10) .nil))) (.cons (.lend 17) .nil)))) (.var 10)) (.cons (.con (.int 0)) .nil))) [] (S7 a2 (some (.v (iD n))) (some (.v (.tuple (nD one)))) a5 a6 a7 a8 a9 a10 a11 a12 a13 a14 a15 a16 (some (.v (iD t)))) s = some (.v (iD (one.idxOf t)), S7 a2 (some (.v (iD n))) (some (.v (.tuple (nD one)))) a5 a6 a7 a8 a9 a10 a11 a12 a13 a14 a15 a16 (some (.v (iD t))), s) := fun t ht => by
    have hown : (([10] : List Nat).all (free (S7 a2 (some (.v (iD n))) (some (.v (.tuple (nD one)))) a5 a6 a7 a8 a9 a10 a11 a12 a13 a14 a15 a16 (some (.v (iD t))))) && (slotsT (.tname 10)).all ([10] : List Nat).contains) = true := by
      rcases h10 with rfl | ⟨d, rfl⟩
      · simp [free, at_, slotsT]
      · simp [free, at_, slotsT, isOwn]
    have hf := turns_flt (own := [10]) (bind := bindT (.tname 10) []) (cnd := evT noGl C (.tru (.op .eq (.cons (.op .ix (.cons (.lend 4) (.cons (.lend 10) .nil))) (.cons (.lend 17) .nil)))) []) (elt := evE noGl C (.var 10) []) (σ := S7 a2 (some (.v (iD n))) (some (.v (.tuple (nD one)))) a5 a6 a7 a8 a9 none a11 a12 a13 a14 a15 a16 (some (.v (iD t)))) (s := s)
      (p := fun d => match d with | .int k => decide (one.getD k.toNat 0 = t) | _ => false) (f := fun d => d) (ds := nD (List.range n)) (acc := []) (by rw [sizeLine_eq]; simp; omega) (fun d hd => by
        obtain ⟨k, hk, rfl⟩ := List.mem_map.mp hd
        have hk' := List.mem_range.mp hk
        have g := get_ix (one := one) (k := k) (by omega)
        have e1 : evE noGl C (.op .ix (.cons (.lend 4) (.cons (.lend 10) .nil))) [] (S7 a2 (some (.v (iD n))) (some (.v (.tuple (nD one)))) a5 a6 a7 a8 a9 (some (.v (iD k))) a11 a12 a13 a14 a15 a16 (some (.v (iD t)))) s = some (.v (iD (one.getD k 0)), S7 a2 (some (.v (iD n))) (some (.v (.tuple (nD one)))) a5 a6 a7 a8 a9 (some (.v (iD k))) a11 a12 a13 a14 a15 a16 (some (.v (iD t))), s) :=
          op_ll (v := .v (.tuple (nD one))) (u := .v (iD k)) rfl rfl rfl rfl g
        have e2 : evT noGl C (.tru (.op .eq (.cons (.op .ix (.cons (.lend 4) (.cons (.lend 10) .nil))) (.cons (.lend 17) .nil)))) [] (S7 a2 (some (.v (iD n))) (some (.v (.tuple (nD one)))) a5 a6 a7 a8 a9 (some (.v (iD k))) a11 a12 a13 a14 a15 a16 (some (.v (iD t)))) s = some (decide (one.getD k 0 = t), S7 a2 (some (.v (iD n))) (some (.v (.tuple (nD one)))) a5 a6 a7 a8 a9 (some (.v (iD k))) a11 a12 a13 a14 a15 a16 (some (.v (iD t))), s) :=
          tru_eq (op_dl rfl e1 rfl (u := .v (iD t)) rfl rfl (eq_ii _ _))
        exact ⟨S7 a2 (some (.v (iD n))) (some (.v (.tuple (nD one)))) a5 a6 a7 a8 a9 (some (.v (iD k))) a11 a12 a13 a14 a15 a16 (some (.v (iD t))), S7 a2 (some (.v (iD n))) (some (.v (.tuple (nD one)))) a5 a6 a7 a8 a9 (some (.v (iD k))) a11 a12 a13 a14 a15 a16 (some (.v (iD t))), rfl, by simpa using e2, rfl, fun _ => ⟨.v (iD k), S7 a2 (some (.v (iD n))) (some (.v (.tuple (nD one)))) a5 a6 a7 a8 a9 (some (.v (iD k))) a11 a12 a13 a14 a15 a16 (some (.v (iD t))), rfl, rfl, rfl⟩⟩)
    have hc := comp_eq (lk := []) (own := [10]) (hI (some (.v (iD t)))) hown hf
    have hz : opD .ix [.d (.list ([] ++ ((nD (List.range n)).filter fun d => match d with | .int k => decide (one.getD k.toNat 0 = t) | _ => false).map fun d => d)), .d (.int 0)] = some (.v (iD (one.idxOf t))) := by
      have e : ([] ++ ((nD (List.range n)).filter fun d => match d with | .int k => decide (one.getD k.toNat 0 = t) | _ => false).map fun d => d) = nD ((List.range n).filter fun k => decide (one.getD k 0 = t)) := by
        simp only [List.nil_append, List.map_id', nD, List.filter_map]
        rfl
      rw [e]
      have hh : ∀ l : List D, opD .ix [.d (.list l), .d (.int 0)] = (L2.atI l ((0 : Nat) : Int)).map Ct.v := fun _ => rfl
      rw [hh, atI_n (nD_get (find_first pm ht))]
      rfl
    exact op2e rfl hc rfl rfl rfl rfl hz
  have ht := turns_map (own := [17]) (bind := bindT (.tname 17) []) (cnd := evT noGl C .yes []) (elt := evE noGl C (.op .ix (.cons (.comp [10] (.irng1 (.var 3)) (.tname 10) (.tru (.op .eq (.cons (.op .ix (.cons (.lend 4) (.cons (.lend 10) .nil))) (.cons (.lend 17) .nil)))) (.var 10)) (.cons (.con (.int 0)) .nil))) []) (σ := S a2 (some (.v (iD n))) (some (.v (.tuple (nD one)))) a5 a6 a7 a8 a9 a10 a11 a12 a13 a14 a15 a16) (s := s)
    (f := fun d => match d with | .int k => iD (one.idxOf k.toNat) | _ => .none) (ds := nD (List.range n)) (acc := []) (by rw [sizeLine_eq]; simp; omega) (fun d hd => by
      obtain ⟨t, htm, rfl⟩ := List.mem_map.mp hd
      have ht' := List.mem_range.mp htm
      exact ⟨S7 a2 (some (.v (iD n))) (some (.v (.tuple (nD one)))) a5 a6 a7 a8 a9 a10 a11 a12 a13 a14 a15 a16 (some (.v (iD t))), .v (iD (one.idxOf t)), S7 a2 (some (.v (iD n))) (some (.v (.tuple (nD one)))) a5 a6 a7 a8 a9 a10 a11 a12 a13 a14 a15 a16 (some (.v (iD t))), rfl, rfl, rfl, inner t ht', by simp [frz], rfl⟩)
  have hc := comp_eq (lk := []) (own := [17]) (hI none) rfl ht
  have hm : [] ++ (nD (List.range n)).map (fun d => match d with | .int k => iD (one.idxOf k.toNat) | _ => .none) = nD (invN n one) := by
    simp [nD, invN, Function.comp_def]
  rw [hm] at hc
  exact asg_nm (i := 15) (op1e rfl hc rfl rfl) rfl (by simp)
theorem row_inv (pm : one.Perm (List.range n)) (h2 : n ≤ 12) : RowD (.tuple (nD (invN n one))) ∧ RowD (.list (nD (invN n one))) := by
  have h := inv_perm pm
  have hl : (invN n one).length ≤ 100 := by rw [inv_len]; omega
  exact ⟨rowT hl fun k hk => by have := h k hk; omega, rowL hl fun k hk => by have := h k hk; omega⟩
theorem row_beh (pm : one.Perm (List.range n)) (pm2 : other.Perm (List.range n)) (h2 : n ≤ 12) : RowD (.tuple (nD (other.map fun k => one.getD k 0))) := by
  have hl : one.length = n := by rw [pm.length_eq]; simp
  refine rowT (by simp [pm2.length_eq]; omega) fun k hk => ?_
  obtain ⟨j, hj, rfl⟩ := List.mem_map.mp hk
  have jn : j < n := by simpa using pm2.mem_iff.mp hj
  have e : one.getD j 0 = one[j]'(by omega) := by simp [List.getD, List.getElem?_eq_getElem (show j < one.length by omega)]
  rw [e]
  have := pm.mem_iff.mp (List.getElem_mem (show j < one.length by omega))
  simp at this
  omega
theorem beh_call {m : Nat} (pm : one.Perm (List.range n)) (hk : ∀ k ∈ other, k < n) (ho : other.length ≤ 100) : C 8 [.v (.tuple (nD one)), .v (.tuple (nD other))] s = some (.v (.tuple (nD (other.map fun k => one.getD k 0))), s) := by
  have hl : one.length = n := by rw [pm.length_eq]; simp
  have c : C 8 [.v (.tuple (nD one)), .v (.tuple (nD other))] s = some (.v (.tuple (other.map fun k => (nD one).getD k .none)), s) := call8 (m := 11) (by omega) (by simpa [hl] using hk)
  rw [nD_getD one other (by rw [hl]; exact hk)] at c
  exact c
theorem beh_call2 (pm : one.Perm (List.range n)) (hk : ∀ k ∈ other, k < n) (ho : other.length ≤ 100) : C 16 [.v (.tuple (nD one)), .v (.tuple (nD other))] s = some (.v (.tuple (nD (other.map fun k => one.getD k 0))), s) := by
  have hl : one.length = n := by rw [pm.length_eq]; simp
  have c : C 16 [.v (.tuple (nD one)), .v (.tuple (nD other))] s = some (.v (.tuple (other.map fun k => (nD one).getD k .none)), s) := call16 (m := 11) (by omega) (by simpa [hl] using hk)
  rw [nD_getD one other (by rw [hl]; exact hk)] at c
  exact c
theorem st11ok (pm : one.Perm (List.range n)) (pm2 : other.Perm (List.range n)) (h2 : n ≤ 12) :
    evS noGl C (.asg (.tname 16) (.lst (.cons (.call 7 (.cons (.var 4) .nil)) (.cons (.call 8 (.cons (.var 4) (.cons (.var 5) .nil))) (.cons (.comp [17] (.irng1 (.var 3)) (.tname 17) .yes (.call 9 (.cons (.var 4) (.cons (.var 17) .nil)))) .nil))))) [] (S a2 (some (.v (iD n))) (some (.v (.tuple (nD one)))) (some (.v (.tuple (nD other)))) a6 a7 a8 a9 a10 a11 a12 a13 a14 a15 a16) s =
      some (.nx, S a2 (some (.v (iD n))) (some (.v (.tuple (nD one)))) (some (.v (.tuple (nD other)))) a6 a7 a8 a9 a10 a11 a12 a13 a14 a15 (some (.l [.tuple (nD (invN n one)), .tuple (nD (other.map fun k => one.getD k 0)), .list (nD (invN n one))])), s) := by
  have ho : other.length = n := by rw [pm2.length_eq]; simp
  have c7 : C 7 [.v (.tuple (nD one))] s = some (.v (.tuple (nD (invN n one))), s) := call7 (m := 11) (by omega) pm
  have c8 := beh_call (m := 0) (s := s) pm (fun k hk => by simpa using pm2.mem_iff.mp hk) (by omega)
  have ht := turns_map (own := [17]) (bind := bindT (.tname 17) []) (cnd := evT noGl C .yes []) (elt := evE noGl C (.call 9 (.cons (.var 4) (.cons (.var 17) .nil))) []) (σ := S a2 (some (.v (iD n))) (some (.v (.tuple (nD one)))) (some (.v (.tuple (nD other)))) a6 a7 a8 a9 a10 a11 a12 a13 a14 a15 a16) (s := s)
    (f := fun d => match d with | .int k => iD (one.idxOf k.toNat) | _ => .none) (ds := nD (List.range n)) (acc := []) (by rw [sizeLine_eq]; simp; omega) (fun d hd => by
      obtain ⟨t, htm, rfl⟩ := List.mem_map.mp hd
      have c9 : C 9 [.v (.tuple (nD one)), .v (iD t)] s = some (.v (iD (one.idxOf t)), s) := call9 (m := 11) (pm.mem_iff.mpr htm)
      have e : evE noGl C (.call 9 (.cons (.var 4) (.cons (.var 17) .nil))) [] (S7 a2 (some (.v (iD n))) (some (.v (.tuple (nD one)))) (some (.v (.tuple (nD other)))) a6 a7 a8 a9 a10 a11 a12 a13 a14 a15 a16 (some (.v (iD t)))) s = some (.v (iD (one.idxOf t)), S7 a2 (some (.v (iD n))) (some (.v (.tuple (nD one)))) (some (.v (.tuple (nD other)))) a6 a7 a8 a9 a10 a11 a12 a13 a14 a15 a16 (some (.v (iD t))), s) :=
        call_eq (g_v rfl rfl rfl (g_v rfl rfl rfl g_nl)) c9
      exact ⟨S7 a2 (some (.v (iD n))) (some (.v (.tuple (nD one)))) (some (.v (.tuple (nD other)))) a6 a7 a8 a9 a10 a11 a12 a13 a14 a15 a16 (some (.v (iD t))), .v (iD (one.idxOf t)), S7 a2 (some (.v (iD n))) (some (.v (.tuple (nD one)))) (some (.v (.tuple (nD other)))) a6 a7 a8 a9 a10 a11 a12 a13 a14 a15 a16 (some (.v (iD t))), rfl, rfl, rfl, e, by simp [frz], rfl⟩)
  have hI : evI noGl C (.irng1 (.var 3)) [] (S a2 (some (.v (iD n))) (some (.v (.tuple (nD one)))) (some (.v (.tuple (nD other)))) a6 a7 a8 a9 a10 a11 a12 a13 a14 a15 a16) s = some (nD (List.range n), [], S a2 (some (.v (iD n))) (some (.v (.tuple (nD one)))) (some (.v (.tuple (nD other)))) a6 a7 a8 a9 a10 a11 a12 a13 a14 a15 a16, s) :=
    irng1_eq (j := (n : Int)) rfl (rng1_n (by omega))
  have hc := comp_eq (lk := []) (own := [17]) hI rfl ht
  have hm : [] ++ (nD (List.range n)).map (fun d => match d with | .int k => iD (one.idxOf k.toNat) | _ => .none) = nD (invN n one) := by
    simp [nD, invN, Function.comp_def]
  rw [hm] at hc
  have e7 : evE noGl C (.call 7 (.cons (.var 4) .nil)) [] (S a2 (some (.v (iD n))) (some (.v (.tuple (nD one)))) (some (.v (.tuple (nD other)))) a6 a7 a8 a9 a10 a11 a12 a13 a14 a15 a16) s = some (.v (.tuple (nD (invN n one))), S a2 (some (.v (iD n))) (some (.v (.tuple (nD one)))) (some (.v (.tuple (nD other)))) a6 a7 a8 a9 a10 a11 a12 a13 a14 a15 a16, s) := call_eq (g_v rfl rfl rfl g_nl) c7
  have e8 : evE noGl C (.call 8 (.cons (.var 4) (.cons (.var 5) .nil))) [] (S a2 (some (.v (iD n))) (some (.v (.tuple (nD one)))) (some (.v (.tuple (nD other)))) a6 a7 a8 a9 a10 a11 a12 a13 a14 a15 a16) s = some (.v (.tuple (nD (other.map fun k => one.getD k 0))), S a2 (some (.v (iD n))) (some (.v (.tuple (nD one)))) (some (.v (.tuple (nD other)))) a6 a7 a8 a9 a10 a11 a12 a13 a14 a15 a16, s) := call_eq (g_v rfl rfl rfl (g_v rfl rfl rfl g_nl)) c8
  exact asg_nm (i := 16) (lst_eq (ds_cons e7 rfl (ds_cons e8 rfl (ds_cons hc rfl ds_nil))) (by simp)) rfl (by simp)
theorem st12ok (pm : one.Perm (List.range n)) (pm2 : other.Perm (List.range n)) (h2 : n ≤ 12) :
    evS noGl C (.if_ (.tru (.op .ne (.cons (.op .repr (.cons (.lend 16) .nil)) (.cons (.op .repr (.cons (.lst (.cons (.var 15) (.cons (.call 16 (.cons (.var 4) (.cons (.var 5) .nil))) (.cons (.op .list (.cons (.lend 15) .nil)) .nil)))) .nil)) .nil)))) (.cons (.ret (.con (.bool false))) .nil) .nil) [] (S a2 a3 (some (.v (.tuple (nD one)))) (some (.v (.tuple (nD other)))) a6 a7 a8 a9 a10 a11 a12 a13 a14 (some (.v (.tuple (nD (invN n one))))) (some (.l [.tuple (nD (invN n one)), .tuple (nD (other.map fun k => one.getD k 0)), .list (nD (invN n one))]))) s =
      some (.nx, S a2 a3 (some (.v (.tuple (nD one)))) (some (.v (.tuple (nD other)))) a6 a7 a8 a9 a10 a11 a12 a13 a14 (some (.v (.tuple (nD (invN n one))))) (some (.l [.tuple (nD (invN n one)), .tuple (nD (other.map fun k => one.getD k 0)), .list (nD (invN n one))])), s) := by
  have ho : other.length = n := by rw [pm2.length_eq]; simp
  have c16 := beh_call2 (s := s) pm (fun k hk => by simpa using pm2.mem_iff.mp hk) (by omega)
  have ok := ok_list (ds := [.tuple (nD (invN n one)), .tuple (nD (other.map fun k => one.getD k 0)), .list (nD (invN n one))]) (by
    intro d hd
    simp only [List.mem_cons, List.not_mem_nil, or_false] at hd
    rcases hd with rfl | rfl | rfl
    · exact (row_inv pm h2).1
    · exact row_beh pm pm2 h2
    · exact (row_inv pm h2).2) (by simp)
  exact chk ok.2 rfl rfl (op_l (v := .l [.tuple (nD (invN n one)), .tuple (nD (other.map fun k => one.getD k 0)), .list (nD (invN n one))]) rfl rfl (op_repr ok.1))
    (op1e rfl (lst_eq (ds_cons (v := .v (.tuple (nD (invN n one)))) rfl rfl (ds_cons (call_eq (g_v rfl rfl rfl (g_v rfl rfl rfl g_nl)) c16) rfl (ds_cons (op_l (v := .v (.tuple (nD (invN n one)))) (w := .l (nD (invN n one))) rfl rfl rfl) rfl ds_nil))) (by simp)) rfl (op_repr ok.1))
theorem st13ok (pm : one.Perm (List.range n)) (h2 : n ≤ 12) (hw : ∀ k ∈ word, k + 1 < n) (hwl : word.length ≤ 100) :
    evS noGl C (.if_ (.tru (.op .ne (.cons (.op .repr (.cons (.lst (.cons (.call 8 (.cons (.var 4) (.cons (.var 15) .nil))) (.cons (.call 8 (.cons (.var 15) (.cons (.var 4) .nil))) (.cons (.call 6 (.cons (.var 3) (.cons (.op .rev (.cons (.lend 6) .nil)) .nil))) .nil)))) .nil)) (.cons (.op .repr (.cons (.lst (.cons (.var 9) (.cons (.var 9) (.cons (.call 7 (.cons (.var 14) .nil)) .nil)))) .nil)) .nil)))) (.cons (.ret (.con (.bool false))) .nil) .nil) [] (S a2 (some (.v (iD n))) (some (.v (.tuple (nD one)))) a5 (some (.v (.tuple (nD word)))) a7 a8 (some (.v (.tuple (nD (List.range n))))) a10 a11 a12 a13 (some (.v (.tuple (nD (ledL (List.range n) word))))) (some (.v (.tuple (nD (invN n one))))) a16) s =
      some (.nx, S a2 (some (.v (iD n))) (some (.v (.tuple (nD one)))) a5 (some (.v (.tuple (nD word)))) a7 a8 (some (.v (.tuple (nD (List.range n))))) a10 a11 a12 a13 (some (.v (.tuple (nD (ledL (List.range n) word))))) (some (.v (.tuple (nD (invN n one))))) a16, s) := by
  have hl : one.length = n := by rw [pm.length_eq]; simp
  have c8 := beh_call (m := 0) (s := s) pm (inv_perm pm) (by rw [inv_len]; omega)
  rw [inv_left pm] at c8
  have c8' : C 8 [.v (.tuple (nD (invN n one))), .v (.tuple (nD one))] s = some (.v (.tuple (nD (List.range n))), s) := by
    have c : C 8 [.v (.tuple (nD (invN n one))), .v (.tuple (nD one))] s = some (.v (.tuple (one.map fun k => (nD (invN n one)).getD k .none)), s) := call8 (m := 11) (by omega) (by
      intro k hk
      have := pm.mem_iff.mp hk
      simp [invN] at this ⊢
      exact this)
    rw [nD_getD _ one (by
      intro k hk
      have := pm.mem_iff.mp hk
      simp [invN] at this ⊢
      exact this), inv_right pm] at c
    exact c
  have c6 : C 6 [.v (iD n), .v (.tuple (nD word.reverse))] s = some (.v (.tuple (ledL (nD (List.range n)) word.reverse)), s) := call6 (m := 8) (by omega) (by simpa using hw)
  rw [led_n, led_inv] at c6
  have pm3 := led_perm word (List.range n)
  have c7 : C 7 [.v (.tuple (nD (ledL (List.range n) word)))] s = some (.v (.tuple (nD (invN n (ledL (List.range n) word)))), s) := call7 (m := 11) (by omega) pm3
  have er : opD .rev [.d (.tuple (nD word))] = some (.v (.tuple (nD word.reverse))) := by
    have h : opD .rev [.d (.tuple (nD word))] = some (.v (.tuple (nD word).reverse)) := rfl
    rw [h]
    simp [nD]
  have ok := ok_list (ds := [.tuple (nD (List.range n)), .tuple (nD (List.range n)), .tuple (nD (invN n (ledL (List.range n) word)))]) (by
    intro d hd
    simp only [List.mem_cons, List.not_mem_nil, or_false] at hd
    rcases hd with rfl | rfl | rfl
    · exact rowP (List.Perm.refl _) h2
    · exact rowP (List.Perm.refl _) h2
    · exact (row_inv pm3 h2).1) (by simp)
  exact chk ok.2 rfl rfl (op1e rfl (lst_eq (ds_cons (call_eq (g_v rfl rfl rfl (g_v rfl rfl rfl g_nl)) c8) rfl (ds_cons (call_eq (g_v rfl rfl rfl (g_v rfl rfl rfl g_nl)) c8') rfl (ds_cons (call_eq (g_v rfl rfl rfl (g_v rfl (op_l (v := .v (.tuple (nD word))) rfl rfl er) rfl g_nl)) c6) rfl ds_nil))) (by simp)) rfl (op_repr ok.1))
    (op1e rfl (lst_eq (ds_cons (v := .v (.tuple (nD (List.range n)))) rfl rfl (ds_cons (v := .v (.tuple (nD (List.range n)))) rfl rfl (ds_cons (call_eq (g_v rfl rfl rfl g_nl) c7) rfl ds_nil))) (by simp)) rfl (op_repr ok.1))
end
end GW.Law

namespace GW.Law
open PySem GW

section
variable {n : Nat} {one other word late first : List Nat} {a2 a3 a4 a5 a6 a7 a8 a9 a10 a11 a12 a13 a14 a15 a16 : Option Ct} {s : Src}
theorem cut54 (word : List Nat) : opD .slHi [.d (.tuple (nD word)), .d (.int 54)] = some (.v (.tuple (nD (word.take 54)))) := by
  have h : opD .slHi [.d (.tuple (nD word)), .d (.int 54)] = some (.v (.tuple (cutL (nD word) none (some ((54 : Nat) : Int))))) := rfl
  rw [h, cut_hi]
  simp [nD, List.map_take]
theorem add_tt {a b : List Nat} (h : a.length + b.length ≤ 1000) : opD .add [.d (.tuple (nD a)), .d (.tuple (nD b))] = some (.v (.tuple (nD (a ++ b)))) := by
  have hh : opD .add [.d (.tuple (nD a)), .d (.tuple (nD b))] = if fits ((nD a).length + (nD b).length) then some (.v (.tuple (nD a ++ nD b))) else none := rfl
  rw [hh, if_pos (fits_n (by simp; omega))]
  simp [nD]
theorem st14ok (h2 : n ≤ 12) (hw : ∀ k ∈ word, k + 1 < n) (hwl : word.length ≤ 100) (hw2 : ∀ k ∈ late, k + 1 < n) (hwl2 : late.length ≤ 100) :
    evS noGl C (.if_ (.tru (.op .ne (.cons (.op .repr (.cons (.call 6 (.cons (.var 3) (.cons (.op .add (.cons (.op .slHi (.cons (.lend 6) (.cons (.con (.int 54)) .nil))) (.cons (.lend 7) .nil))) .nil))) .nil)) (.cons (.op .repr (.cons (.call 8 (.cons (.call 15 (.cons (.var 9) (.cons (.op .slHi (.cons (.lend 6) (.cons (.con (.int 54)) .nil))) .nil))) (.cons (.call 6 (.cons (.var 3) (.cons (.var 7) .nil))) .nil))) .nil)) .nil)))) (.cons (.ret (.con (.bool false))) .nil) .nil) [] (S a2 (some (.v (iD n))) a4 a5 (some (.v (.tuple (nD word)))) (some (.v (.tuple (nD late)))) a8 (some (.v (.tuple (nD (List.range n))))) a10 a11 a12 a13 a14 a15 a16) s =
      some (.nx, S a2 (some (.v (iD n))) a4 a5 (some (.v (.tuple (nD word)))) (some (.v (.tuple (nD late)))) a8 (some (.v (.tuple (nD (List.range n))))) a10 a11 a12 a13 a14 a15 a16, s) := by
  have hA : ∀ k ∈ word.take 54, k + 1 < n := fun k hk => hw k (List.mem_of_mem_take hk)
  have lA : (word.take 54).length ≤ 100 := by simp; omega
  have hAB : ∀ k ∈ word.take 54 ++ late, k + 1 < n := fun k hk => by
    rcases List.mem_append.mp hk with h | h
    · exact hA k h
    · exact hw2 k h
  have pA := led_perm (word.take 54) (List.range n)
  have pB := led_perm late (List.range n)
  have lP : (ledL (List.range n) (word.take 54)).length = n := by rw [ledL_len]; simp
  have c6 : C 6 [.v (iD n), .v (.tuple (nD (word.take 54 ++ late)))] s = some (.v (.tuple (ledL (nD (List.range n)) (word.take 54 ++ late))), s) := call6 (m := 8) (by omega) hAB
  rw [led_n, led_app, led_as _ late n lP] at c6
  have c15 : C 15 [.v (.tuple (nD (List.range n))), .v (.tuple (nD (word.take 54)))] s = some (.v (.tuple (ledL (nD (List.range n)) (word.take 54))), s) := call15 (m := 11) (by simp; omega) (by simpa using hA)
  rw [led_n] at c15
  have c6b : C 6 [.v (iD n), .v (.tuple (nD late))] s = some (.v (.tuple (ledL (nD (List.range n)) late)), s) := call6 (m := 8) (by omega) hw2
  rw [led_n] at c6b
  have c8 := beh_call (m := 0) (s := s) pA (fun k hk => by simpa using pB.mem_iff.mp hk) (by rw [ledL_len]; simp; omega)
  have row := row_beh pA pB h2
  have e1 : evE noGl C (.op .slHi (.cons (.lend 6) (.cons (.con (.int 54)) .nil))) [] (S a2 (some (.v (iD n))) a4 a5 (some (.v (.tuple (nD word)))) (some (.v (.tuple (nD late)))) a8 (some (.v (.tuple (nD (List.range n))))) a10 a11 a12 a13 a14 a15 a16) s = some (.v (.tuple (nD (word.take 54))), S a2 (some (.v (iD n))) a4 a5 (some (.v (.tuple (nD word)))) (some (.v (.tuple (nD late)))) a8 (some (.v (.tuple (nD (List.range n))))) a10 a11 a12 a13 a14 a15 a16, s) :=
    op_ld (v := .v (.tuple (nD word))) (u := .v (.int 54)) rfl rfl rfl rfl rfl rfl (cut54 word)
  have e2 := op_dl (lk := []) (i := 7) (u := .v (.tuple (nD late))) rfl e1 rfl rfl rfl (add_tt (a := word.take 54) (b := late) (by omega))
  exact chk (ok_row row) rfl rfl (op1e rfl (call_eq (g_v rfl rfl rfl (g_v rfl e2 rfl g_nl)) c6) rfl (op_repr (can_row row)))
    (op1e rfl (call_eq (g_v rfl (call_eq (g_v rfl rfl rfl (g_v rfl e1 rfl g_nl)) c15) rfl (g_v rfl (call_eq (g_v rfl rfl rfl (g_v rfl rfl rfl g_nl)) c6b) rfl g_nl)) c8) rfl (op_repr (can_row row)))
abbrev keptD (one other word late : List Nat) : D := .list [.tuple (nD one), .tuple (nD other), .tuple (nD word), .tuple (nD late)]
theorem kept_ok (pm : one.Perm (List.range n)) (pm2 : other.Perm (List.range n)) (h2 : n ≤ 12) (hw : ∀ k ∈ word, k + 1 < n) (hwl : word.length ≤ 100) (hw2 : ∀ k ∈ late, k + 1 < n) (hwl2 : late.length ≤ 100) :
    canShow (keptD one other word late) = true ∧ PyData.strOk (keptD one other word late).shown = true := ok_list (by
  intro d hd
  simp only [List.mem_cons, List.not_mem_nil, or_false] at hd
  rcases hd with rfl | rfl | rfl | rfl
  · exact rowP pm h2
  · exact rowP pm2 h2
  · exact rowT hwl fun k hk => by have := hw k hk; omega
  · exact rowT hwl2 fun k hk => by have := hw2 k hk; omega) (by simp)
theorem kept_e (ok : canShow (keptD one other word late) = true) : evE noGl C (.op .repr (.cons (.lst (.cons (.var 4) (.cons (.var 5) (.cons (.var 6) (.cons (.var 7) .nil))))) .nil)) [] (S a2 a3 (some (.v (.tuple (nD one)))) (some (.v (.tuple (nD other)))) (some (.v (.tuple (nD word)))) (some (.v (.tuple (nD late)))) a8 a9 a10 a11 a12 a13 a14 a15 a16) s =
    some (.v (.str (keptD one other word late).shown), S a2 a3 (some (.v (.tuple (nD one)))) (some (.v (.tuple (nD other)))) (some (.v (.tuple (nD word)))) (some (.v (.tuple (nD late)))) a8 a9 a10 a11 a12 a13 a14 a15 a16, s) :=
  op1e rfl (lst_eq (ds_cons (v := .v (.tuple (nD one))) rfl rfl (ds_cons (v := .v (.tuple (nD other))) rfl rfl (ds_cons (v := .v (.tuple (nD word))) rfl rfl (ds_cons (v := .v (.tuple (nD late))) rfl rfl ds_nil)))) (by simp)) rfl (op_repr ok)
theorem st15ok (ok : canShow (keptD one other word late) = true) (ok2 : PyData.strOk (keptD one other word late).shown = true) :
    evS noGl C (.if_ (.tru (.op .ne (.cons (.op .repr (.cons (.lst (.cons (.var 4) (.cons (.var 5) (.cons (.var 6) (.cons (.var 7) .nil))))) .nil)) (.cons (.lend 8) .nil)))) (.cons (.ret (.con (.bool false))) .nil) .nil) [] (S a2 a3 (some (.v (.tuple (nD one)))) (some (.v (.tuple (nD other)))) (some (.v (.tuple (nD word)))) (some (.v (.tuple (nD late)))) (some (.v (.str (keptD one other word late).shown))) a9 a10 a11 a12 a13 a14 a15 a16) s =
      some (.nx, S a2 a3 (some (.v (.tuple (nD one)))) (some (.v (.tuple (nD other)))) (some (.v (.tuple (nD word)))) (some (.v (.tuple (nD late)))) (some (.v (.str (keptD one other word late).shown))) a9 a10 a11 a12 a13 a14 a15 a16, s) :=
  (if_f (tru_eq (op_dl rfl (kept_e ok) rfl (u := .v (.str (keptD one other word late).shown)) rfl rfl (op_ne ok2)))).trans rfl
/-- how many things -/
theorem most {lap : Nat} (h : lap < 5) : ∃ m : Nat, 1 ≤ m ∧ m ≤ 12 ∧ opD .ix [.d (.list [.int 3, .int 5, .int 8, .int 12, .int 12]), .d (iD lap)] = some (.v (.int m)) := by
  have : lap = 0 ∨ lap = 1 ∨ lap = 2 ∨ lap = 3 ∨ lap = 4 := by omega
  rcases this with rfl | rfl | rfl | rfl | rfl
  · exact ⟨3, by decide, by decide, rfl⟩
  · exact ⟨5, by decide, by decide, rfl⟩
  · exact ⟨8, by decide, by decide, rfl⟩
  · exact ⟨12, by decide, by decide, rfl⟩
  · exact ⟨12, by decide, by decide, rfl⟩
theorem lapOk {lap : Nat} (hl : lap < 5) (hs : s.cells.length ≤ 100) (h10 : a10 = none ∨ ∃ d, a10 = some (.v d)) :
    ∃ (b3 b4 b5 b6 b7 b8 b9 b10 b11 b12 b13 b14 b15 b16 : Option Ct) (s' : Src), evSs noGl C (.cons (.asg (.tname 3) (.op .add (.cons (.con (.int 1)) (.cons (.call 10 (.cons (.var 1) (.cons (.op .ix (.cons (.lst (.cons (.con (.int 3)) (.cons (.con (.int 5)) (.cons (.con (.int 8)) (.cons (.con (.int 12)) (.cons (.con (.int 12)) .nil)))))) (.cons (.lend 2) .nil))) .nil))) .nil)))) (.cons (.par (.cons (.tname 4) (.cons (.tname 5) (.cons (.tname 6) (.cons (.tname 7) .nil)))) (.cons (.call 13 (.cons (.var 1) (.cons (.var 3) .nil))) (.cons (.call 13 (.cons (.var 1) (.cons (.var 3) .nil))) (.cons (.call 14 (.cons (.var 1) (.cons (.var 3) (.cons (.con (.int 66)) .nil)))) (.cons (.call 14 (.cons (.var 1) (.cons (.var 3) (.cons (.con (.int 12)) .nil)))) .nil))))) (.cons (.par (.cons (.tname 8) (.cons (.tname 9) .nil)) (.cons (.op .repr (.cons (.lst (.cons (.var 4) (.cons (.var 5) (.cons (.var 6) (.cons (.var 7) .nil))))) .nil)) (.cons (.op .tupR1 (.cons (.lend 3) .nil)) .nil))) (.cons (.if_ (.tru (.op .ne (.cons (.op .repr (.cons (.lst (.cons (.call 1 (.cons (.var 3) .nil)) (.cons (.call 2 (.cons (.var 3) .nil)) .nil))) .nil)) (.cons (.op .repr (.cons (.lst (.cons (.var 9) (.cons (.op .rev (.cons (.lend 9) .nil)) .nil))) .nil)) .nil)))) (.cons (.ret (.con (.bool false))) .nil) .nil) (.cons (.for_ (.irng1 (.op .sub (.cons (.lend 3) (.cons (.con (.int 1)) .nil)))) (.tname 10) (.cons (.if_ (.tru (.op .ne (.cons (.op .repr (.cons (.call 4 (.cons (.var 4) (.cons (.var 10) .nil))) .nil)) (.cons (.op .repr (.cons (.call 15 (.cons (.var 4) (.cons (.tup (.cons (.var 10) .nil)) .nil))) .nil)) .nil)))) (.cons (.ret (.con (.bool false))) .nil) .nil) .nil)) (.cons (.par (.cons (.tname 11) (.cons (.tname 12) .nil)) (.cons (.call 10 (.cons (.var 1) (.cons (.var 3) .nil))) (.cons (.call 10 (.cons (.var 1) (.cons (.var 3) .nil))) .nil))) (.cons (.asg (.tname 13) (.op .tuple (.cons (.comp [10] (.irng1 (.var 3)) (.tname 10) .yes (.op .ix (.cons (.lend 4) (.cons (.disg (.cons (.var 11) (.cons (.var 12) (.cons (.var 12) (.cons (.var 11) (.cons (.var 10) (.cons (.var 10) .nil))))))) .nil)))) .nil))) (.cons (.if_ (.and (.tru (.op .ne (.cons (.lend 11) (.cons (.lend 12) .nil)))) (.tru (.op .ne (.cons (.op .repr (.cons (.call 3 (.cons (.var 4) (.cons (.var 11) (.cons (.var 12) .nil)))) .nil)) (.cons (.op .repr (.cons (.lend 13) .nil)) .nil))))) (.cons (.ret (.con (.bool false))) .nil) .nil) (.cons (.asg (.tname 14) (.call 15 (.cons (.var 9) (.cons (.var 6) .nil)))) (.cons (.if_ (.tru (.op .ne (.cons (.op .repr (.cons (.lst (.cons (.call 6 (.cons (.var 3) (.cons (.var 6) .nil))) (.cons (.call 5 (.cons (.var 4) (.cons (.var 7) .nil))) (.cons (.call 5 (.cons (.var 4) (.cons (.tup .nil) .nil))) .nil)))) .nil)) (.cons (.op .repr (.cons (.lst (.cons (.var 14) (.cons (.call 15 (.cons (.var 4) (.cons (.var 7) .nil))) (.cons (.var 4) .nil)))) .nil)) .nil)))) (.cons (.ret (.con (.bool false))) .nil) .nil) (.cons (.asg (.tname 15) (.op .tuple (.cons (.comp [17] (.irng1 (.var 3)) (.tname 17) .yes (.op .ix (.cons (.comp [10] (.irng1 (.var 3)) (.tname 10) (.tru (.op .eq (.cons (.op .ix (.cons (.lend 4) (.cons (.lend 10) .nil))) (.cons (.lend 17) .nil)))) (.var 10)) (.cons (.con (.int 0)) .nil)))) .nil))) (.cons (.asg (.tname 16) (.lst (.cons (.call 7 (.cons (.var 4) .nil)) (.cons (.call 8 (.cons (.var 4) (.cons (.var 5) .nil))) (.cons (.comp [17] (.irng1 (.var 3)) (.tname 17) .yes (.call 9 (.cons (.var 4) (.cons (.var 17) .nil)))) .nil))))) (.cons (.if_ (.tru (.op .ne (.cons (.op .repr (.cons (.lend 16) .nil)) (.cons (.op .repr (.cons (.lst (.cons (.var 15) (.cons (.call 16 (.cons (.var 4) (.cons (.var 5) .nil))) (.cons (.op .list (.cons (.lend 15) .nil)) .nil)))) .nil)) .nil)))) (.cons (.ret (.con (.bool false))) .nil) .nil) (.cons (.if_ (.tru (.op .ne (.cons (.op .repr (.cons (.lst (.cons (.call 8 (.cons (.var 4) (.cons (.var 15) .nil))) (.cons (.call 8 (.cons (.var 15) (.cons (.var 4) .nil))) (.cons (.call 6 (.cons (.var 3) (.cons (.op .rev (.cons (.lend 6) .nil)) .nil))) .nil)))) .nil)) (.cons (.op .repr (.cons (.lst (.cons (.var 9) (.cons (.var 9) (.cons (.call 7 (.cons (.var 14) .nil)) .nil)))) .nil)) .nil)))) (.cons (.ret (.con (.bool false))) .nil) .nil) (.cons (.if_ (.tru (.op .ne (.cons (.op .repr (.cons (.call 6 (.cons (.var 3) (.cons (.op .add (.cons (.op .slHi (.cons (.lend 6) (.cons (.con (.int 54)) .nil))) (.cons (.lend 7) .nil))) .nil))) .nil)) (.cons (.op .repr (.cons (.call 8 (.cons (.call 15 (.cons (.var 9) (.cons (.op .slHi (.cons (.lend 6) (.cons (.con (.int 54)) .nil))) .nil))) (.cons (.call 6 (.cons (.var 3) (.cons (.var 7) .nil))) .nil))) .nil)) .nil)))) (.cons (.ret (.con (.bool false))) .nil) .nil) (.cons (.if_ (.tru (.op .ne (.cons (.op .repr (.cons (.lst (.cons (.var 4) (.cons (.var 5) (.cons (.var 6) (.cons (.var 7) .nil))))) .nil)) (.cons (.lend 8) .nil)))) (.cons (.ret (.con (.bool false))) .nil) .nil) .nil)))))))))))))))) [] (S (some (.v (iD lap))) a3 a4 a5 a6 a7 a8 a9 a10 a11 a12 a13 a14 a15 a16) s = some (.nx, S (some (.v (iD lap))) b3 b4 b5 b6 b7 b8 b9 b10 b11 b12 b13 b14 b15 b16, s') ∧ s'.cells.length ≤ 100 ∧ (b10 = none ∨ ∃ d, b10 = some (.v d)) := by
  obtain ⟨mm, m1, m2, hm⟩ := most hl
  have eL : evE noGl C (.lst (.cons (.con (.int 3)) (.cons (.con (.int 5)) (.cons (.con (.int 8)) (.cons (.con (.int 12)) (.cons (.con (.int 12)) .nil)))))) [] (S (some (.v (iD lap))) a3 a4 a5 a6 a7 a8 a9 a10 a11 a12 a13 a14 a15 a16) s = some (.l [.int 3, .int 5, .int 8, .int 12, .int 12], S (some (.v (iD lap))) a3 a4 a5 a6 a7 a8 a9 a10 a11 a12 a13 a14 a15 a16, s) :=
    lst_eq (ds_cons rfl rfl (ds_cons rfl rfl (ds_cons rfl rfl (ds_cons rfl rfl (ds_cons rfl rfl ds_nil))))) (by simp)
  have eM := op_dl (lk := []) (i := 2) (u := .v (iD lap)) rfl eL rfl rfl rfl hm
  obtain ⟨r, s1, c1, hr, l1⟩ := draw1 (σ := S (some (.v (iD lap))) a3 a4 a5 a6 a7 a8 a9 a10 a11 a12 a13 a14 a15 a16) (s := s) rfl rfl eM (by omega) (by omega) hs
  have eadd : opD .add [.d (.int 1), .d (.int (r : Int))] = some (.v (iD (1 + r))) := by
    have h : opD .add [.d (.int 1), .d (.int (r : Int))] = some (.v (.int (1 + (r : Int)))) := rfl
    rw [h]
    congr 3
  have q0 := asg_nm (i := 3) (lk := []) (op2e (a := .con (.int 1)) (v := .v (.int 1)) rfl rfl rfl rfl c1 rfl eadd) rfl (by simp)
  generalize hn : 1 + r = n at q0
  have n1 : 1 ≤ n := by omega
  have n2 : n ≤ 12 := by omega
  obtain ⟨one, s2, d1, pm, l2⟩ := call13 (m := 9) (s := s1) n1 (by omega) l1
  obtain ⟨other, s3, d2, pm2, l3⟩ := call13 (m := 9) (s := s2) n1 (by omega) l2
  obtain ⟨word, s4, d3, hw, hwl, l4⟩ := call14 (most := 66) (m := 10) (s := s3) n1 (by omega) (by omega) l3
  obtain ⟨late, s5, d4, hw2, hwl2, l5⟩ := call14 (most := 12) (m := 10) (s := s4) n1 (by omega) (by omega) l4
  have q1 : evS noGl C (.par (.cons (.tname 4) (.cons (.tname 5) (.cons (.tname 6) (.cons (.tname 7) .nil)))) (.cons (.call 13 (.cons (.var 1) (.cons (.var 3) .nil))) (.cons (.call 13 (.cons (.var 1) (.cons (.var 3) .nil))) (.cons (.call 14 (.cons (.var 1) (.cons (.var 3) (.cons (.con (.int 66)) .nil)))) (.cons (.call 14 (.cons (.var 1) (.cons (.var 3) (.cons (.con (.int 12)) .nil)))) .nil))))) [] (S (some (.v (iD lap))) (some (.v (iD n))) a4 a5 a6 a7 a8 a9 a10 a11 a12 a13 a14 a15 a16) s1 = some (.nx, S (some (.v (iD lap))) (some (.v (iD n))) (some (.v (.tuple (nD one)))) (some (.v (.tuple (nD other)))) (some (.v (.tuple (nD word)))) (some (.v (.tuple (nD late)))) a8 a9 a10 a11 a12 a13 a14 a15 a16, s5) :=
    par_eq (cs_cons (call_eq (g_v rfl rfl rfl (g_v rfl rfl rfl g_nl)) d1) (cs_cons (call_eq (g_v rfl rfl rfl (g_v rfl rfl rfl g_nl)) d2) (cs_cons (call_eq (g_v rfl rfl rfl (g_v rfl rfl rfl (g_v rfl rfl rfl g_nl))) d3) (cs_cons (call_eq (g_v rfl rfl rfl (g_v rfl rfl rfl (g_v rfl rfl rfl g_nl))) d4) cs_nil)))) rfl
  have kok := kept_ok pm pm2 n2 hw (by omega) hw2 (by omega)
  have fr : evE noGl C (.op .tupR1 (.cons (.lend 3) .nil)) [] (S (some (.v (iD lap))) (some (.v (iD n))) (some (.v (.tuple (nD one)))) (some (.v (.tuple (nD other)))) (some (.v (.tuple (nD word)))) (some (.v (.tuple (nD late)))) a8 a9 a10 a11 a12 a13 a14 a15 a16) s5 = some (.v (.tuple (nD (List.range n))), S (some (.v (iD lap))) (some (.v (iD n))) (some (.v (.tuple (nD one)))) (some (.v (.tuple (nD other)))) (some (.v (.tuple (nD word)))) (some (.v (.tuple (nD late)))) a8 a9 a10 a11 a12 a13 a14 a15 a16, s5) := by
    have q : opD .tupR1 [.d (iD n)] = some (.v (.tuple (nD (List.range n)))) := by
      have h : opD .tupR1 [.d (iD n)] = (rng1 (n : Int)).map fun r => Ct.v (.tuple r) := rfl
      rw [h, rng1_n (by omega)]; rfl
    exact op_l (v := .v (iD n)) rfl rfl q
  have q2 : evS noGl C (.par (.cons (.tname 8) (.cons (.tname 9) .nil)) (.cons (.op .repr (.cons (.lst (.cons (.var 4) (.cons (.var 5) (.cons (.var 6) (.cons (.var 7) .nil))))) .nil)) (.cons (.op .tupR1 (.cons (.lend 3) .nil)) .nil))) [] (S (some (.v (iD lap))) (some (.v (iD n))) (some (.v (.tuple (nD one)))) (some (.v (.tuple (nD other)))) (some (.v (.tuple (nD word)))) (some (.v (.tuple (nD late)))) a8 a9 a10 a11 a12 a13 a14 a15 a16) s5 = some (.nx, S (some (.v (iD lap))) (some (.v (iD n))) (some (.v (.tuple (nD one)))) (some (.v (.tuple (nD other)))) (some (.v (.tuple (nD word)))) (some (.v (.tuple (nD late)))) (some (.v (.str (keptD one other word late).shown))) (some (.v (.tuple (nD (List.range n))))) a10 a11 a12 a13 a14 a15 a16, s5) :=
    par_eq (cs_cons (kept_e kok.1) (cs_cons fr cs_nil)) rfl
  obtain ⟨b10, q4, hb⟩ := st5ok (a2 := some (.v (iD lap))) (a5 := some (.v (.tuple (nD other)))) (a6 := some (.v (.tuple (nD word)))) (a7 := some (.v (.tuple (nD late)))) (a8 := some (.v (.str (keptD one other word late).shown))) (a9 := some (.v (.tuple (nD (List.range n))))) (a10 := a10) (a11 := a11) (a12 := a12) (a13 := a13) (a14 := a14) (a15 := a15) (a16 := a16) (s := s5) pm n1 n2
  have hb' : b10 = none ∨ ∃ d, b10 = some (.v d) := by
    rcases hb with rfl | h
    · exact h10
    · exact Or.inr h
  obtain ⟨i, s6, e1, hi, l6⟩ := draw1 (i := (n : Int)) (e := .var 3) (σ := S (some (.v (iD lap))) (some (.v (iD n))) (some (.v (.tuple (nD one)))) (some (.v (.tuple (nD other)))) (some (.v (.tuple (nD word)))) (some (.v (.tuple (nD late)))) (some (.v (.str (keptD one other word late).shown))) (some (.v (.tuple (nD (List.range n))))) b10 a11 a12 a13 a14 a15 a16) (s := s5) rfl rfl rfl (by omega) (by omega) l5
  obtain ⟨j, s7, e2, hj, l7⟩ := draw1 (i := (n : Int)) (e := .var 3) (σ := S (some (.v (iD lap))) (some (.v (iD n))) (some (.v (.tuple (nD one)))) (some (.v (.tuple (nD other)))) (some (.v (.tuple (nD word)))) (some (.v (.tuple (nD late)))) (some (.v (.str (keptD one other word late).shown))) (some (.v (.tuple (nD (List.range n))))) b10 a11 a12 a13 a14 a15 a16) (s := s6) rfl rfl rfl (by omega) (by omega) l6
  have q5 : evS noGl C (.par (.cons (.tname 11) (.cons (.tname 12) .nil)) (.cons (.call 10 (.cons (.var 1) (.cons (.var 3) .nil))) (.cons (.call 10 (.cons (.var 1) (.cons (.var 3) .nil))) .nil))) [] (S (some (.v (iD lap))) (some (.v (iD n))) (some (.v (.tuple (nD one)))) (some (.v (.tuple (nD other)))) (some (.v (.tuple (nD word)))) (some (.v (.tuple (nD late)))) (some (.v (.str (keptD one other word late).shown))) (some (.v (.tuple (nD (List.range n))))) b10 a11 a12 a13 a14 a15 a16) s5 = some (.nx, S (some (.v (iD lap))) (some (.v (iD n))) (some (.v (.tuple (nD one)))) (some (.v (.tuple (nD other)))) (some (.v (.tuple (nD word)))) (some (.v (.tuple (nD late)))) (some (.v (.str (keptD one other word late).shown))) (some (.v (.tuple (nD (List.range n))))) b10 (some (.v (iD i))) (some (.v (iD j))) a13 a14 a15 a16, s7) :=
    par_eq (cs_cons e1 (cs_cons e2 cs_nil)) rfl
  have hi' : i < n := by omega
  have hj' : j < n := by omega
  refine ⟨some (.v (iD n)), some (.v (.tuple (nD one))), some (.v (.tuple (nD other))), some (.v (.tuple (nD word))), some (.v (.tuple (nD late))), some (.v (.str (keptD one other word late).shown)), some (.v (.tuple (nD (List.range n)))), b10, some (.v (iD i)), some (.v (iD j)), some (.v (.tuple (nD ((List.range n).map fun k => one.getD (exN i j k) 0)))), some (.v (.tuple (nD (ledL (List.range n) word)))), some (.v (.tuple (nD (invN n one)))), some (.l [.tuple (nD (invN n one)), .tuple (nD (other.map fun k => one.getD k 0)), .list (nD (invN n one))]), s7, ?_, l7, hb'⟩
  refine (ss_nx q0).trans ((ss_nx q1).trans ((ss_nx q2).trans ((ss_nx (st4ok n1 n2)).trans ((ss_nx q4).trans ((ss_nx q5).trans ?_)))))
  refine (ss_nx (st6ok pm n2 hi' hj' hb')).trans ((ss_nx (st7ok pm n2 hi' hj')).trans ((ss_nx (st8ok n2 hw)).trans ((ss_nx (st9ok pm n2 hw hw2)).trans ?_)))
  exact (ss_nx (st10ok pm n2 hb')).trans ((ss_nx (st11ok pm pm2 n2)).trans ((ss_nx (st12ok pm pm2 n2)).trans ((ss_nx (st13ok pm n2 hw (by omega))).trans ((ss_nx (st14ok n2 hw (by omega) hw2 (by omega))).trans ((ss_nx (st15ok kok.1 kok.2)).trans rfl)))))
theorem lapsOk : ∀ (ls : List Nat) (a2 a3 a4 a5 a6 a7 a8 a9 a10 a11 a12 a13 a14 a15 a16 : Option Ct) (s : Src), (∀ l ∈ ls, l < 5) → s.cells.length ≤ 100 → (a10 = none ∨ ∃ d, a10 = some (.v d)) →
    ∃ (b2 b3 b4 b5 b6 b7 b8 b9 b10 b11 b12 b13 b14 b15 b16 : Option Ct) (s' : Src), walk (bindT (.tname 2) []) (evSs noGl C (.cons (.asg (.tname 3) (.op .add (.cons (.con (.int 1)) (.cons (.call 10 (.cons (.var 1) (.cons (.op .ix (.cons (.lst (.cons (.con (.int 3)) (.cons (.con (.int 5)) (.cons (.con (.int 8)) (.cons (.con (.int 12)) (.cons (.con (.int 12)) .nil)))))) (.cons (.lend 2) .nil))) .nil))) .nil)))) (.cons (.par (.cons (.tname 4) (.cons (.tname 5) (.cons (.tname 6) (.cons (.tname 7) .nil)))) (.cons (.call 13 (.cons (.var 1) (.cons (.var 3) .nil))) (.cons (.call 13 (.cons (.var 1) (.cons (.var 3) .nil))) (.cons (.call 14 (.cons (.var 1) (.cons (.var 3) (.cons (.con (.int 66)) .nil)))) (.cons (.call 14 (.cons (.var 1) (.cons (.var 3) (.cons (.con (.int 12)) .nil)))) .nil))))) (.cons (.par (.cons (.tname 8) (.cons (.tname 9) .nil)) (.cons (.op .repr (.cons (.lst (.cons (.var 4) (.cons (.var 5) (.cons (.var 6) (.cons (.var 7) .nil))))) .nil)) (.cons (.op .tupR1 (.cons (.lend 3) .nil)) .nil))) (.cons (.if_ (.tru (.op .ne (.cons (.op .repr (.cons (.lst (.cons (.call 1 (.cons (.var 3) .nil)) (.cons (.call 2 (.cons (.var 3) .nil)) .nil))) .nil)) (.cons (.op .repr (.cons (.lst (.cons (.var 9) (.cons (.op .rev (.cons (.lend 9) .nil)) .nil))) .nil)) .nil)))) (.cons (.ret (.con (.bool false))) .nil) .nil) (.cons (.for_ (.irng1 (.op .sub (.cons (.lend 3) (.cons (.con (.int 1)) .nil)))) (.tname 10) (.cons (.if_ (.tru (.op .ne (.cons (.op .repr (.cons (.call 4 (.cons (.var 4) (.cons (.var 10) .nil))) .nil)) (.cons (.op .repr (.cons (.call 15 (.cons (.var 4) (.cons (.tup (.cons (.var 10) .nil)) .nil))) .nil)) .nil)))) (.cons (.ret (.con (.bool false))) .nil) .nil) .nil)) (.cons (.par (.cons (.tname 11) (.cons (.tname 12) .nil)) (.cons (.call 10 (.cons (.var 1) (.cons (.var 3) .nil))) (.cons (.call 10 (.cons (.var 1) (.cons (.var 3) .nil))) .nil))) (.cons (.asg (.tname 13) (.op .tuple (.cons (.comp [10] (.irng1 (.var 3)) (.tname 10) .yes (.op .ix (.cons (.lend 4) (.cons (.disg (.cons (.var 11) (.cons (.var 12) (.cons (.var 12) (.cons (.var 11) (.cons (.var 10) (.cons (.var 10) .nil))))))) .nil)))) .nil))) (.cons (.if_ (.and (.tru (.op .ne (.cons (.lend 11) (.cons (.lend 12) .nil)))) (.tru (.op .ne (.cons (.op .repr (.cons (.call 3 (.cons (.var 4) (.cons (.var 11) (.cons (.var 12) .nil)))) .nil)) (.cons (.op .repr (.cons (.lend 13) .nil)) .nil))))) (.cons (.ret (.con (.bool false))) .nil) .nil) (.cons (.asg (.tname 14) (.call 15 (.cons (.var 9) (.cons (.var 6) .nil)))) (.cons (.if_ (.tru (.op .ne (.cons (.op .repr (.cons (.lst (.cons (.call 6 (.cons (.var 3) (.cons (.var 6) .nil))) (.cons (.call 5 (.cons (.var 4) (.cons (.var 7) .nil))) (.cons (.call 5 (.cons (.var 4) (.cons (.tup .nil) .nil))) .nil)))) .nil)) (.cons (.op .repr (.cons (.lst (.cons (.var 14) (.cons (.call 15 (.cons (.var 4) (.cons (.var 7) .nil))) (.cons (.var 4) .nil)))) .nil)) .nil)))) (.cons (.ret (.con (.bool false))) .nil) .nil) (.cons (.asg (.tname 15) (.op .tuple (.cons (.comp [17] (.irng1 (.var 3)) (.tname 17) .yes (.op .ix (.cons (.comp [10] (.irng1 (.var 3)) (.tname 10) (.tru (.op .eq (.cons (.op .ix (.cons (.lend 4) (.cons (.lend 10) .nil))) (.cons (.lend 17) .nil)))) (.var 10)) (.cons (.con (.int 0)) .nil)))) .nil))) (.cons (.asg (.tname 16) (.lst (.cons (.call 7 (.cons (.var 4) .nil)) (.cons (.call 8 (.cons (.var 4) (.cons (.var 5) .nil))) (.cons (.comp [17] (.irng1 (.var 3)) (.tname 17) .yes (.call 9 (.cons (.var 4) (.cons (.var 17) .nil)))) .nil))))) (.cons (.if_ (.tru (.op .ne (.cons (.op .repr (.cons (.lend 16) .nil)) (.cons (.op .repr (.cons (.lst (.cons (.var 15) (.cons (.call 16 (.cons (.var 4) (.cons (.var 5) .nil))) (.cons (.op .list (.cons (.lend 15) .nil)) .nil)))) .nil)) .nil)))) (.cons (.ret (.con (.bool false))) .nil) .nil) (.cons (.if_ (.tru (.op .ne (.cons (.op .repr (.cons (.lst (.cons (.call 8 (.cons (.var 4) (.cons (.var 15) .nil))) (.cons (.call 8 (.cons (.var 15) (.cons (.var 4) .nil))) (.cons (.call 6 (.cons (.var 3) (.cons (.op .rev (.cons (.lend 6) .nil)) .nil))) .nil)))) .nil)) (.cons (.op .repr (.cons (.lst (.cons (.var 9) (.cons (.var 9) (.cons (.call 7 (.cons (.var 14) .nil)) .nil)))) .nil)) .nil)))) (.cons (.ret (.con (.bool false))) .nil) .nil) (.cons (.if_ (.tru (.op .ne (.cons (.op .repr (.cons (.call 6 (.cons (.var 3) (.cons (.op .add (.cons (.op .slHi (.cons (.lend 6) (.cons (.con (.int 54)) .nil))) (.cons (.lend 7) .nil))) .nil))) .nil)) (.cons (.op .repr (.cons (.call 8 (.cons (.call 15 (.cons (.var 9) (.cons (.op .slHi (.cons (.lend 6) (.cons (.con (.int 54)) .nil))) .nil))) (.cons (.call 6 (.cons (.var 3) (.cons (.var 7) .nil))) .nil))) .nil)) .nil)))) (.cons (.ret (.con (.bool false))) .nil) .nil) (.cons (.if_ (.tru (.op .ne (.cons (.op .repr (.cons (.lst (.cons (.var 4) (.cons (.var 5) (.cons (.var 6) (.cons (.var 7) .nil))))) .nil)) (.cons (.lend 8) .nil)))) (.cons (.ret (.con (.bool false))) .nil) .nil) .nil)))))))))))))))) []) (nD ls) (S a2 a3 a4 a5 a6 a7 a8 a9 a10 a11 a12 a13 a14 a15 a16) s = some (.nx, S b2 b3 b4 b5 b6 b7 b8 b9 b10 b11 b12 b13 b14 b15 b16, s')
  | [], a2, a3, a4, a5, a6, a7, a8, a9, a10, a11, a12, a13, a14, a15, a16, s, _, _, _ => ⟨a2, a3, a4, a5, a6, a7, a8, a9, a10, a11, a12, a13, a14, a15, a16, s, rfl⟩
  | l :: ls, a2, a3, a4, a5, a6, a7, a8, a9, a10, a11, a12, a13, a14, a15, a16, s, h, hs, h10 => by
    obtain ⟨b3, b4, b5, b6, b7, b8, b9, b10, b11, b12, b13, b14, b15, b16, s', e, l', hb⟩ := lapOk (a3 := a3) (a4 := a4) (a5 := a5) (a6 := a6) (a7 := a7) (a8 := a8) (a9 := a9) (a11 := a11) (a12 := a12) (a13 := a13) (a14 := a14) (a15 := a15) (a16 := a16) (h l (by simp)) hs h10
    obtain ⟨c2, c3, c4, c5, c6, c7, c8, c9, c10, c11, c12, c13, c14, c15, c16, s'', e2⟩ := lapsOk ls (some (.v (iD l))) b3 b4 b5 b6 b7 b8 b9 b10 b11 b12 b13 b14 b15 b16 s' (fun l hl => h l (by simp [hl])) l' hb
    exact ⟨c2, c3, c4, c5, c6, c7, c8, c9, c10, c11, c12, c13, c14, c15, c16, s'', (walk_nx (d := iD l) (ds := nD ls) rfl e).trans e2⟩
end
end GW.Law

namespace GW.Law
open PySem GW

abbrev lastD : List D := [.tuple (nD [1, 2, 0]), .tuple (nD [2, 0, 1]), .tuple (nD [2, 0, 1]), .tuple (nD [0]), .tuple (nD [0]), .tuple (nD [0])]
theorem last_ok : canShow (.list lastD) = true ∧ PyData.strOk (PyData.list lastD).shown = true := ok_list (by
  intro d hd
  simp only [lastD, List.mem_cons, List.not_mem_nil, or_false] at hd
  rcases hd with rfl | rfl | rfl | rfl | rfl | rfl <;> exact rowT (by decide) (by decide)) (by simp)
section
variable {a2 a3 a4 a5 a6 a7 a8 a9 a10 a11 a12 a13 a14 a15 a16 : Option Ct} {s : Src}
theorem lastA : evS noGl C (.asg (.tname 16) (.lst (.cons (.call 6 (.cons (.con (.int 3)) (.cons (.tup (.cons (.con (.int 0)) (.cons (.con (.int 1)) .nil))) .nil))) (.cons (.call 7 (.cons (.tup (.cons (.con (.int 1)) (.cons (.con (.int 2)) (.cons (.con (.int 0)) .nil)))) .nil)) (.cons (.call 6 (.cons (.con (.int 3)) (.cons (.tup (.cons (.con (.int 1)) (.cons (.con (.int 0)) .nil))) .nil))) (.cons (.call 1 (.cons (.con (.int 1)) .nil)) (.cons (.call 2 (.cons (.con (.int 1)) .nil)) (.cons (.call 6 (.cons (.con (.int 1)) (.cons (.tup .nil) .nil))) .nil)))))))) [] (S a2 a3 a4 a5 a6 a7 a8 a9 a10 a11 a12 a13 a14 a15 a16) s = some (.nx, S a2 a3 a4 a5 a6 a7 a8 a9 a10 a11 a12 a13 a14 a15 (some (.l lastD)), s) := by
  have x1 : C 6 [.v (iD 3), .v (.tuple (nD [0, 1]))] s = some (.v (.tuple (nD [1, 2, 0])), s) := by
    have c : C 6 [.v (iD 3), .v (.tuple (nD [0, 1]))] s = some (.v (.tuple (ledL (nD (List.range 3)) [0, 1])), s) := call6 (m := 8) (by omega) (by decide)
    rw [led_n, show ledL (List.range 3) [0, 1] = [1, 2, 0] by decide] at c
    exact c
  have x2 : C 7 [.v (.tuple (nD [1, 2, 0]))] s = some (.v (.tuple (nD [2, 0, 1])), s) := by
    have c : C 7 [.v (.tuple (nD [1, 2, 0]))] s = some (.v (.tuple (nD (invN 3 [1, 2, 0]))), s) := call7 (m := 11) (by omega) (by decide)
    rw [show invN 3 [1, 2, 0] = [2, 0, 1] by decide] at c
    exact c
  have x3 : C 6 [.v (iD 3), .v (.tuple (nD [1, 0]))] s = some (.v (.tuple (nD [2, 0, 1])), s) := by
    have c : C 6 [.v (iD 3), .v (.tuple (nD [1, 0]))] s = some (.v (.tuple (ledL (nD (List.range 3)) [1, 0])), s) := call6 (m := 8) (by omega) (by decide)
    rw [led_n, show ledL (List.range 3) [1, 0] = [2, 0, 1] by decide] at c
    exact c
  have x4 : C 1 [.v (iD 1)] s = some (.v (.tuple (nD [0])), s) := call1 (k := 11) (rng1_n (n := 1) (by omega))
  have x5 : C 2 [.v (iD 1)] s = some (.v (.tuple (nD [0])), s) := call2 (k := 11) (rng3_n (n := 1) (by omega) (by omega))
  have x6 : C 6 [.v (iD 1), .v (.tuple (nD []))] s = some (.v (.tuple (nD [0])), s) := call6 (m := 8) (n := 1) (ks := []) (by omega) (by simp)
  have t2 : ∀ (a b : Int), evE noGl C (.tup (.cons (.con (.int a)) (.cons (.con (.int b)) .nil))) [] (S a2 a3 a4 a5 a6 a7 a8 a9 a10 a11 a12 a13 a14 a15 a16) s = some (.v (.tuple [.int a, .int b]), S a2 a3 a4 a5 a6 a7 a8 a9 a10 a11 a12 a13 a14 a15 a16, s) := fun a b => tup_eq (ds_cons rfl rfl (ds_cons rfl rfl ds_nil)) (by simp)
  have t3 : evE noGl C (.tup (.cons (.con (.int 1)) (.cons (.con (.int 2)) (.cons (.con (.int 0)) .nil)))) [] (S a2 a3 a4 a5 a6 a7 a8 a9 a10 a11 a12 a13 a14 a15 a16) s = some (.v (.tuple [.int 1, .int 2, .int 0]), S a2 a3 a4 a5 a6 a7 a8 a9 a10 a11 a12 a13 a14 a15 a16, s) := tup_eq (ds_cons rfl rfl (ds_cons rfl rfl (ds_cons rfl rfl ds_nil))) (by simp)
  have t0 : evE noGl C (.tup .nil) [] (S a2 a3 a4 a5 a6 a7 a8 a9 a10 a11 a12 a13 a14 a15 a16) s = some (.v (.tuple []), S a2 a3 a4 a5 a6 a7 a8 a9 a10 a11 a12 a13 a14 a15 a16, s) := tup_eq ds_nil (by simp)
  have y1 := call_eq (f := 6) (g_v (a := .con (.int 3)) (v := .v (.int 3)) (g := .v (.int 3)) rfl rfl rfl (g_v rfl (t2 0 1) rfl g_nl)) x1
  have y2 := call_eq (f := 7) (g_v rfl t3 rfl g_nl) x2
  have y3 := call_eq (f := 6) (g_v (a := .con (.int 3)) (v := .v (.int 3)) (g := .v (.int 3)) rfl rfl rfl (g_v rfl (t2 1 0) rfl g_nl)) x3
  have y4 := call_eq (f := 1) (g_v (a := .con (.int 1)) (v := .v (.int 1)) (g := .v (.int 1)) (σ := S a2 a3 a4 a5 a6 a7 a8 a9 a10 a11 a12 a13 a14 a15 a16) (s := s) (lk := []) (gl := noGl) (cs := C) rfl rfl rfl g_nl) x4
  have y5 := call_eq (f := 2) (g_v (a := .con (.int 1)) (v := .v (.int 1)) (g := .v (.int 1)) (σ := S a2 a3 a4 a5 a6 a7 a8 a9 a10 a11 a12 a13 a14 a15 a16) (s := s) (lk := []) (gl := noGl) (cs := C) rfl rfl rfl g_nl) x5
  have y6 := call_eq (f := 6) (g_v (a := .con (.int 1)) (v := .v (.int 1)) (g := .v (.int 1)) rfl rfl rfl (g_v rfl t0 rfl g_nl)) x6
  exact asg_nm (i := 16) (lst_eq (ds_cons y1 rfl (ds_cons y2 rfl (ds_cons y3 rfl (ds_cons y4 rfl (ds_cons y5 rfl (ds_cons y6 rfl ds_nil)))))) (by simp)) rfl (by simp)
theorem lastR : ∃ σ', evS noGl C (.ret (.op .eq (.cons (.op .repr (.cons (.lend 16) .nil)) (.cons (.op .repr (.cons (.lst (.cons (.tup (.cons (.con (.int 1)) (.cons (.con (.int 2)) (.cons (.con (.int 0)) .nil)))) (.cons (.tup (.cons (.con (.int 2)) (.cons (.con (.int 0)) (.cons (.con (.int 1)) .nil)))) (.cons (.tup (.cons (.con (.int 2)) (.cons (.con (.int 0)) (.cons (.con (.int 1)) .nil)))) (.cons (.tup (.cons (.con (.int 0)) .nil)) (.cons (.tup (.cons (.con (.int 0)) .nil)) (.cons (.tup (.cons (.con (.int 0)) .nil)) .nil))))))) .nil)) .nil)))) [] (S a2 a3 a4 a5 a6 a7 a8 a9 a10 a11 a12 a13 a14 a15 (some (.l lastD))) s = some (.rt (.v (.bool true)), σ', s) := by
  have t3 : ∀ (a b c : Int), evE noGl C (.tup (.cons (.con (.int a)) (.cons (.con (.int b)) (.cons (.con (.int c)) .nil)))) [] (S a2 a3 a4 a5 a6 a7 a8 a9 a10 a11 a12 a13 a14 a15 (some (.l lastD))) s = some (.v (.tuple [.int a, .int b, .int c]), S a2 a3 a4 a5 a6 a7 a8 a9 a10 a11 a12 a13 a14 a15 (some (.l lastD)), s) := fun a b c => tup_eq (ds_cons rfl rfl (ds_cons rfl rfl (ds_cons rfl rfl ds_nil))) (by simp)
  have t1 : evE noGl C (.tup (.cons (.con (.int 0)) .nil)) [] (S a2 a3 a4 a5 a6 a7 a8 a9 a10 a11 a12 a13 a14 a15 (some (.l lastD))) s = some (.v (.tuple [.int 0]), S a2 a3 a4 a5 a6 a7 a8 a9 a10 a11 a12 a13 a14 a15 (some (.l lastD)), s) := tup_eq (ds_cons rfl rfl ds_nil) (by simp)
  have e1 := op_l (gl := noGl) (cs := C) (lk := []) (i := 16) (σ := S a2 a3 a4 a5 a6 a7 a8 a9 a10 a11 a12 a13 a14 a15 (some (.l lastD))) (s := s) (v := .l lastD) rfl rfl (op_repr last_ok.1)
  have e2 := op1e rfl (lst_eq (ds_cons (t3 1 2 0) rfl (ds_cons (t3 2 0 1) rfl (ds_cons (t3 2 0 1) rfl (ds_cons t1 rfl (ds_cons t1 rfl (ds_cons t1 rfl ds_nil)))))) (by simp)) rfl (op_repr (d := .list lastD) last_ok.1)
  exact ⟨_, ret_eq (op2e rfl e1 rfl rfl e2 rfl (op_eqs last_ok.2)) (by simp)⟩
end
theorem math : ∀ ns mx, ns.length ≤ 63 → ∃ e' s', evSs noGl (cl depth) dL [] (none :: some .s :: List.replicate 16 none) (src0 ns mx) = some (.rt (.v (.bool true)), e', s') := by
  intro ns mx hl
  obtain ⟨b2, b3, b4, b5, b6, b7, b8, b9, b10, b11, b12, b13, b14, b15, b16, s', e⟩ := lapsOk (List.range 5) none none none none none none none none none none none none none none none (src0 ns mx) (by decide) (by simp [src0]; omega) (Or.inl rfl)
  have hI : evI noGl C (.irng1 (.con (.int 5))) [] (S none none none none none none none none none none none none none none none) (src0 ns mx) = some (nD (List.range 5), [], S none none none none none none none none none none none none none none none, src0 ns mx) :=
    irng1_eq (j := ((5 : Nat) : Int)) rfl (rng1_n (by omega))
  obtain ⟨σ', r⟩ := lastR (a2 := b2) (a3 := b3) (a4 := b4) (a5 := b5) (a6 := b6) (a7 := b7) (a8 := b8) (a9 := b9) (a10 := b10) (a11 := b11) (a12 := b12) (a13 := b13) (a14 := b14) (a15 := b15) (s := s')
  exact ⟨σ', s', (ss_nx ((for_eq hI).trans e)).trans ((ss_nx lastA).trans (ss_rt r))⟩
end GW.Law

open PySem PySem.W PyProof.Rows
set_option maxHeartbeats 0 in
theorem PySem.Challenge.cw_goodwebs_k89_rows_and_words_holds : PySem.Challenge.rw_goodwebs_k89_rows_and_words.Holds := by
  w_on; o_law; k_head; (case hw => w_witness2)
  k_fill
  refine GW.walkG (l := PySem.Challenge.rw_goodwebs_k89_rows_and_words) (n := 63) (k := 13) (x := "script") (sp := fun w => GW.spLaw _) rfl (by decide) rfl ⟨rfl, by decide, by decide⟩ (fun w h Y => PySem.W.kIn_of Y) ?F (fun _ _ a ns hl _ hS => ⟨a, ns, rfl, hS, hl, fun _ => rfl⟩)
  case F =>
    intro w mg fa h KX G hmg
    refine' GW.Law.main KX G (GW.def_mk KX G (fun _ _ _ _ _ _ us hl => match us, hl with | [_], _ => rfl) ?a1 ?l1 ?c1 ?k1) (GW.def_mk KX G (fun _ _ _ _ _ _ us hl => match us, hl with | [_], _ => rfl) ?a2 ?l2 ?c2 ?k2) (GW.def_mk KX G (fun _ _ _ _ _ _ us hl => match us, hl with | [_, _, _], _ => rfl) ?a3 ?l3 ?c3 ?k3) (GW.def_mk KX G (fun _ _ _ _ _ _ us hl => match us, hl with | [_, _], _ => rfl) ?a4 ?l4 ?c4 ?k4) (GW.def_mk KX G (fun _ _ _ _ _ _ us hl => match us, hl with | [_, _], _ => rfl) ?a5 ?l5 ?c5 ?k5) (GW.def_mk KX G (fun _ _ _ _ _ _ us hl => match us, hl with | [_, _], _ => rfl) ?a6 ?l6 ?c6 ?k6) (GW.def_mk KX G (fun _ _ _ _ _ _ us hl => match us, hl with | [_], _ => rfl) ?a7 ?l7 ?c7 ?k7) (GW.def_mk KX G (fun _ _ _ _ _ _ us hl => match us, hl with | [_, _], _ => rfl) ?a8 ?l8 ?c8 ?k8) (GW.def_mk KX G (fun _ _ _ _ _ _ us hl => match us, hl with | [_, _], _ => rfl) ?a9 ?l9 ?c9 ?k9) (GW.def_mk KX G (fun _ _ _ _ _ _ us hl => match us, hl with | [_, _], _ => rfl) ?a10 ?l10 ?c10 ?k10) (GW.def_mk KX G (fun _ _ _ _ _ _ us hl => match us, hl with | [_, _], _ => rfl) ?a11 ?l11 ?c11 ?k11) (GW.def_mk KX G (fun _ _ _ _ _ _ us hl => match us, hl with | [_, _], _ => rfl) ?a12 ?l12 ?c12 ?k12) (GW.def_mk KX G (fun _ _ _ _ _ _ us hl => match us, hl with | [_, _], _ => rfl) ?a13 ?l13 ?c13 ?k13) (GW.def_mk KX G (fun _ _ _ _ _ _ us hl => match us, hl with | [_, _, _], _ => rfl) ?a14 ?l14 ?c14 ?k14) (GW.def_mk KX G (fun _ _ _ _ _ _ us hl => match us, hl with | [_, _], _ => rfl) ?a15 ?l15 ?c15 ?k15) (GW.def_mk KX G (fun _ _ _ _ _ _ us hl => match us, hl with | [_, _], _ => rfl) ?a16 ?l16 ?c16 ?k16) (GW.def_mk KX G (fun _ _ _ _ _ _ us hl => match us, hl with | [_], _ => rfl) ?aS ?lS ?cS ?kS) (GW.Law.law_mk KX G hmg ?aL ?lL ?cL ?kL) ?z0 ?z1 ?z2 ?z3 ?z4 ?z5 ?z6 ?z7 ?z8 ?z9 GW.Law.math
    (case a1 => k_is); (case l1 => k_is); (case c1 => k_is); (case k1 => k_is); (case a2 => k_is); (case l2 => k_is); (case c2 => k_is); (case k2 => k_is); (case a3 => k_is); (case l3 => k_is); (case c3 => k_is); (case k3 => k_is); (case a4 => k_is); (case l4 => k_is); (case c4 => k_is); (case k4 => k_is); (case a5 => k_is); (case l5 => k_is); (case c5 => k_is); (case k5 => k_is); (case a6 => k_is); (case l6 => k_is); (case c6 => k_is); (case k6 => k_is); (case a7 => k_is); (case l7 => k_is); (case c7 => k_is); (case k7 => k_is); (case a8 => k_is); (case l8 => k_is); (case c8 => k_is); (case k8 => k_is); (case a9 => k_is); (case l9 => k_is); (case c9 => k_is); (case k9 => k_is); (case a10 => k_is); (case l10 => k_is); (case c10 => k_is); (case k10 => k_is); (case a11 => k_is); (case l11 => k_is); (case c11 => k_is); (case k11 => k_is); (case a12 => k_is); (case l12 => k_is); (case c12 => k_is); (case k12 => k_is); (case a13 => k_is); (case l13 => k_is); (case c13 => k_is); (case k13 => k_is); (case a14 => k_is); (case l14 => k_is); (case c14 => k_is); (case k14 => k_is); (case a15 => k_is); (case l15 => k_is); (case c15 => k_is); (case k15 => k_is); (case a16 => k_is); (case l16 => k_is); (case c16 => k_is); (case k16 => k_is); (case aS => k_is); (case lS => k_is); (case cS => k_is); (case kS => k_is); (case aL => k_is); (case lL => k_is); (case cL => k_is); (case kL => k_is); (case z0 => k_is); (case z1 => k_is); (case z2 => k_is); (case z3 => k_is); (case z4 => k_is); (case z5 => k_is); (case z6 => k_is); (case z7 => k_is); (case z8 => k_is); (case z9 => k_is)
