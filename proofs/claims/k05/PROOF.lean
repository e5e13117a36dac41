import PyProof.Rows.All
import PyProof.EqLayable
import PyProof.ReprReads
import Wide.All
import OpenK.AllK
import Wide.FinOn
import HandS.ForMost
import HandS.Exc
import HandS.Wide
import HandS.TupAny
import HandS.TupMul
import HandS.Style
import HandS.Deep
import HandS.SortInts
import HandS.IsInst
import PyProof.ReprRoads
import HandS.More
import KE.GoesEnum
import HandS.Zip
import HandS.Rev
import HandS.Conv
import HandS.ExcOwn
import HandS.Defaults
import HandS.Ends
import HandS.Words
import HandS.EndBits
import HandS.HeadHook4
import HandS.HeadEnd
import KE.KBits
import PyProof.ReprLen
import HandS.Text
import HandS.Head0
import HandS.Head1
import HandS.Head2
import KE.KStateDown
import PySem.Challenge.RW_homewords_k05_whole_deeds_done_and_undon
section
set_option linter.all false
/-! # Mini: a small language of trees, read off a Python def; its interpreter. No machine in sight here. -/
namespace HW
open PySem

abbrev D := PyData
/-- the longest list, tuple, text that is let -/
def lim : Nat := 16777216
def wf : Nat := 100000000000000000000

/-- an owned tree: frozen data, or a list, a dict, an instance that may be changed in place -/
inductive OD where
  | fz (d : PyData)
  | lst (os : List OD)
  | dct (ks : List PyData) (os : List OD)
  | ins (c : Nat) (fs : List Nat) (os : List OD)
  deriving Inhabited

mutual
def frz : OD → Option PyData
  | .fz d => some d
  | .lst os => (frzs os).map .list
  | .dct ks os => (frzs os).map fun ds => .dict (ks.zip ds)
  | .ins .. => none
def frzs : List OD → Option (List PyData)
  | [] => some []
  | o :: os => (frz o).bind fun d => (frzs os).map fun ds => d :: ds
end
/-- frozen data itself -/
def isFz : OD → Option PyData
  | .fz d => some d
  | _ => none
def allFz : List OD → Option (List PyData)
  | [] => some []
  | o :: os => (isFz o).bind fun d => (allFz os).map fun ds => d :: ds
/-- a tree all of whose parts below the top are frozen -/
def shal : OD → Option PyData
  | .fz d => some d
  | .lst os => (allFz os).map .list
  | .dct ks os => (allFz os).map fun ds => .dict (ks.zip ds)
  | .ins .. => none

abbrev Env := List (Option OD)
structure Exn where
  cls : Nat
  arg : Option PyData
inductive Out (α : Type) where
  | ok (a : α) (e : Env)
  | exn (x : Exn) (e : Env)
  | bad
abbrev M (α : Type) := Env → Out α
def ret {α : Type} (a : α) : M α := fun e => .ok a e
def Out.andThen {α β : Type} (o : Out α) (f : α → Env → Out β) : Out β := match o with
  | .ok a e => f a e
  | .exn x e => .exn x e
  | .bad => .bad
def bnd {α β : Type} (m : M α) (f : α → M β) : M β := fun e => (m e).andThen f
instance : Monad M where
  pure := ret
  bind := bnd
def bad {α : Type} : M α := fun _ => .bad
def opt {α : Type} : Option α → M α
  | some a => ret a
  | none => bad

/-! ## data -/
inductive BOp where | add | sub | mul | fdiv | mod | shl | shr | pow | band | bor | bxor
  deriving DecidableEq, Repr
inductive COp where | eq | ne | lt | le | gt | ge | is | isn | inn | nin
  deriving DecidableEq, Repr
def mulOk (i j : Int) : Bool := (decide (-(2 ^ 64) < i) && decide (i < 2 ^ 64)) || (decide (-(2 ^ 64) < j) && decide (j < 2 ^ 64)) || decide (i.natAbs.log2 + j.natAbs.log2 < 1000000)
def powOk (i j : Int) : Bool := decide (0 ≤ j) && decide (j ≤ 1000000) && decide (i.natAbs < 2 ^ 64)
def binI : BOp → Int → Int → Option Int
  | .add, i, j => some (i + j)
  | .sub, i, j => some (i - j)
  | .mul, i, j => if mulOk i j then some (i * j) else none
  | .fdiv, i, j => if 0 < j ∧ j.natAbs.log2 < 9000 then some (i / j) else none
  | .mod, i, j => if 0 < j then some (i % j) else none
  | .shl, i, j => if powOk i j then some (i * 2 ^ j.toNat) else none
  | .shr, i, j => if 0 ≤ j then some (i / 2 ^ j.toNat) else none
  | .pow, i, j => if powOk i j then some (i ^ j.toNat) else none
  | .band, i, j => some (Builtin.bitAnd i j)
  | .bor, i, j => some (Builtin.bitOr i j)
  | .bxor, i, j => some (Builtin.bitXor i j)
def fzs (ds : List PyData) : OD := .lst (ds.map .fz)
def binD (o : BOp) (d e : PyData) : Option OD := match d, e with
  | .int i, .int j => (binI o i j).map fun k => .fz (.int k)
  | .tuple xs, .tuple ys => if o = .add ∧ xs.length + ys.length ≤ lim then some (.fz (.tuple (xs ++ ys))) else none
  | .list xs, .list ys => if o = .add ∧ xs.length + ys.length ≤ lim then some (fzs (xs ++ ys)) else none
  | .str x, .str y => if o = .add ∧ x.length + y.length ≤ lim then some (.fz (.str (x ++ y))) else none
  | .list xs, .int k => if o = .mul ∧ -(2 ^ 63) ≤ k ∧ k < 2 ^ 63 ∧ xs.length * k.toNat ≤ lim then some (fzs (List.replicate k.toNat xs).flatten) else none
  | .tuple xs, .int k => if o = .mul ∧ xs ≠ [] ∧ 2 ≤ k ∧ k ≤ 1000 ∧ xs.length ≤ 1000 then some (.fz (.tuple (List.replicate k.toNat xs).flatten)) else none
  | _, _ => none
/-- a scalar -/
def flat : PyData → Bool
  | .none | .bool _ | .int _ | .str _ => true
  | _ => false
def eqD (d e : PyData) : Option Bool := match d, e with
  | .int i, .int j => some (decide (i = j))
  | .str x, .str y => some (decide (x = y))
  | d, e => if SeqAt.shaped d && SeqAt.shaped e then some (PyData.eqv d e) else none
def keyOk : PyData → Bool
  | .int _ | .str _ => true
  | _ => false
def hasKey (k : PyData) (ks : List PyData) : Bool := ks.any fun z => PyData.eqv z k
def inD (d e : PyData) : Option Bool := match e with
  | .list ds => if ds.all flat && flat d then some (ds.any fun z => PyData.eqv z d) else if SeqAt.shaped d && SeqAt.shaped (.list ds) then some (ds.any fun z => PyData.eqv z d) else none
  | .tuple ds => if ds.all flat && flat d then some (ds.any fun z => PyData.eqv z d) else none
  | .dict kvs => if keyOk d then some (hasKey d (kvs.map (·.1))) else none
  | .str y => match d with
    | .str x => some (!(Builtin.Str.occurrences y x 0 y.length 1).isEmpty)
    | _ => none
  | _ => none
def isNon : PyData → Bool
  | .none => true
  | _ => false
def isD (d e : PyData) : Option Bool := match e with
  | .none => some (isNon d)
  | .bool b => match d with
    | .bool a => some (decide (a = b))
    | _ => none
  | _ => none
def cmpD (o : COp) (d e : PyData) : Option Bool := match o with
  | .eq => eqD d e
  | .ne => (eqD d e).map not
  | .inn => inD d e
  | .nin => (inD d e).map not
  | .is => isD d e
  | .isn => (isD d e).map not
  | .lt => match d, e with | .int i, .int j => some (decide (i < j)) | _, _ => none
  | .le => match d, e with | .int i, .int j => some (decide (i ≤ j)) | _, _ => none
  | .gt => match d, e with | .int i, .int j => some (decide (j < i)) | _, _ => none
  | .ge => match d, e with | .int i, .int j => some (decide (j ≤ i)) | _, _ => none
def truD : PyData → Option Bool
  | .none => some false
  | .bool b => some b
  | .int i => some (i != 0)
  | .str x => if x.length ≤ lim then some (x.length != 0) else none
  | .list ds => some (!ds.isEmpty)
  | .tuple ds => some (!ds.isEmpty)
  | .dict _ => none
/-- the place of an index in n items -/
def place (n : Nat) (i : Int) : Option Nat := if 0 ≤ i then (if i < n then some i.toNat else none) else if 0 ≤ (n : Int) + i then some ((n : Int) + i).toNat else none
def item {α : Type} (xs : List α) (i : Int) : Option α := (place xs.length i).bind fun j => xs[j]?
def look (ks : List PyData) {α : Type} (os : List α) (k : PyData) : Option α := match ks, os with
  | z :: ks, o :: os => if PyData.eqv z k then some o else look ks os k
  | _, _ => none
/-- an item of frozen data -/
def idxD (d k : PyData) : Option PyData := match d, k with
  | .list ds, .int i => item ds i
  | .tuple ds, .int i => item ds i
  | .str x, .int i => if x.length ≤ lim then (item x.cps.toList i).map fun c => .str ⟨#[c]⟩ else none
  | .dict kvs, k => if keyOk k then look (kvs.map (·.1)) (kvs.map (·.2)) k else none
  | _, _ => none
/-- the cut's end from one that was written -/
def cutAt (n d : Nat) : Option Int → Nat
  | none => d
  | some i => if i < 0 then (i + n).toNat else min i.toNat n
def cut {α : Type} (xs : List α) (lo hi : Option Int) : List α := (xs.drop (cutAt xs.length 0 lo)).take (cutAt xs.length xs.length hi - cutAt xs.length 0 lo)
def cutD (d : PyData) (lo hi : Option Int) : Option OD := match d with
  | .list ds => some (fzs (cut ds lo hi))
  | .tuple ds => some (.fz (.tuple (cut ds lo hi)))
  | _ => none

/-! ## part of a tree -/
def kid (o : OD) (k : PyData) : Option OD := match o, k with
  | .lst os, .int i => item os i
  | .dct ks os, k => if keyOk k then look ks os k else none
  | .ins _ fs os, .int i => if 0 ≤ i then look (fs.map fun (f : Nat) => PyData.int (f : Int)) os (.int i) else none
  | _, _ => none
def setKV (ks : List PyData) (os : List OD) (k : PyData) (o : OD) : List PyData × List OD := match ks, os with
  | z :: ks, p :: os => if PyData.eqv z k then (z :: ks, o :: os) else (z :: (setKV ks os k o).1, p :: (setKV ks os k o).2)
  | _, _ => ([k], [o])
def setKid (o : OD) (k : PyData) (p : OD) : Option OD := match o, k with
  | .lst os, .int i => (place os.length i).map fun j => .lst (os.set j p)
  | .dct ks os, k => if keyOk k ∧ (look ks os k).isSome then some (.dct (setKV ks os k p).1 (setKV ks os k p).2) else none
  | .ins c fs os, .int i => if 0 ≤ i ∧ (look (fs.map fun (f : Nat) => PyData.int (f : Int)) os (.int i)).isSome then some (.ins c fs (setKV (fs.map fun (f : Nat) => PyData.int (f : Int)) os (.int i) p).2) else none
  | _, _ => none
def getAt : OD → List PyData → Option OD
  | o, [] => some o
  | o, k :: ks => (kid o k).bind fun p => getAt p ks
def setAt : OD → List PyData → OD → Option OD
  | _, [], p => some p
  | o, k :: ks, p => (kid o k).bind fun q => (setAt q ks p).bind fun q' => setKid o k q'

/-! ## the language -/
inductive Tg where
  | var (i : Nat)
  | tup (ts : List Tg)
inductive Bi where
  | len | abs | int | bool | max2 | min2 | maxL | minL | sum | list | tuple | repr | any | all | sorted
  deriving DecidableEq, Repr
inductive Ki where | int | bool | tup | str | list
  deriving DecidableEq, Repr
inductive Mt where | append | pop | popAt | insert | extend | remove
  deriving DecidableEq, Repr
mutual
inductive E where
  | var (i : Nat)
  | lit (d : PyData)
  | glb (g : Nat) (d : PyData)
  | bin (o : BOp) (a b : E)
  | neg (a : E)
  | cmp (o : COp) (a b : E)
  | cmp2 (o p : COp) (a b c : E)
  | and (a b : E)
  | or (a b : E)
  | not (a : E)
  | ite (c a b : E)
  | tup (es : List E)
  | lst (es : List E)
  | dct (kvs : List E)
  | idx (a i : E)
  | slc (a : E) (lo hi : List E)
  | rev (a : E)
  | lrg (t : Bool) (a : E)
  | lrg2 (t : Bool) (a b : E)
  | call (f : Nat) (es : List E)
  | kcall (f : Nat) (es : List E) (p : List Nat)
  | bi (b : Bi) (es : List E)
  | isi (t : Ki) (a : E)
  | comp (t : Tg) (s : It) (cs : List E) (x : E) (own : List Nat)
  | meth (m : Mt) (a : E) (es : List E)
inductive It where
  | of (a : E)
  | rng (es : List E)
  | enm (a : E)
  | zip (es : List E)
  | rvs (a : E)
end
inductive Tt where
  | var (i : Nat)
  | idx (a i : E)
inductive S where
  | expr (a : E)
  | set (i : Nat) (a : E)
  | unp (t : Tg) (a : E)
  | par (ts : List Tt) (es : List E)
  | put (a i x : E)
  | ite (c : E) (a b : List S)
  | whl (c : E) (b : List S)
  | fr (t : Tg) (s : It) (b : List S)
  | rt (a : E)
  | rtN
  | pass
  | cont
  | brk
inductive Fl where
  | nx
  | rt (o : OD)
  | ct
  | bk
structure Fn where
  mu : Option Nat
  np : Nat
  ns : Nat
  body : List S
inductive CRes where
  | ok (o : OD) (out : Option OD)
  | exn (x : Exn)
  | bad
abbrev CallF := Nat → List OD → CRes

/-! ## the interpreter -/
/-- what an expression gives: a tree of its own, or a place in a slot's tree -/
inductive Rv where
  | tmp (o : OD)
  | at (i : Nat) (ks : List PyData)
inductive Opd where
  | fz (d : PyData)
  | at (i : Nat) (ks : List PyData)
def slot (i : Nat) : M OD := fun e => match e[i]? with
  | some (some o) => .ok o e
  | _ => .bad
def setSlot (i : Nat) (o : OD) : M Unit := fun e => if i < e.length then .ok () (e.set i (some o)) else .bad
def slotAt (i : Nat) (ks : List PyData) : M OD := do
  let o ← slot i
  opt (getAt o ks)
/-- a value: what stands in a slot is frozen where it is taken -/
def val : Rv → M OD
  | .tmp o => ret o
  | .at i ks => do
    let o ← slot i
    let d ← opt (if ks.isEmpty then frz o else none)
    setSlot i (.fz d)
    ret (.fz d)
def valD (r : Rv) : M PyData := do
  let o ← val r
  opt (frz o)
/-- an operand: a tree of its own is frozen at once -/
def opd : Rv → M Opd
  | .tmp o => do
    let d ← opt (frz o)
    ret (.fz d)
  | .at i ks => ret (.at i ks)
/-- what is seen of an operand, now -/
def see : Opd → M PyData
  | .fz d => ret d
  | .at i ks => do
    let o ← slotAt i ks
    opt (frz o)
/-- .. to be kept: what stands below the top is frozen -/
def keep : Opd → M PyData
  | .fz d => ret d
  | .at i ks => do
    let o ← slotAt i ks
    opt (shal o)
/-- .. to be handed on: the slot is frozen -/
def give : Opd → M PyData
  | .fz d => ret d
  | .at i ks => valD (.at i ks)
def seeAll : List Opd → M (List PyData)
  | [] => ret []
  | p :: ps => do
    let d ← see p
    let ds ← seeAll ps
    ret (d :: ds)
def giveAll : List Opd → M (List PyData)
  | [] => ret []
  | p :: ps => do
    let d ← give p
    let ds ← giveAll ps
    ret (d :: ds)
def lentK : Opd → M OD
  | .fz d => ret (.fz d)
  | .at i ks => slotAt i ks
/-- the arguments of a call: the one at the place mu is lent, the others are given -/
def lend : Option Nat → List Opd → M (List OD)
  | _, [] => ret []
  | some 0, p :: ps => do
    let ds ← giveAll ps
    let o ← lentK p
    ret (o :: ds.map .fz)
  | some (n + 1), p :: ps => do
    let d ← give p
    let os ← lend (some n) ps
    ret (.fz d :: os)
  | none, ps => do
    let ds ← giveAll ps
    ret (ds.map .fz)
/-- the lent one comes back -/
def putBack (p : Opd) (out : Option OD) : M Unit := match p, out with
  | .at i ks, some o => do
    let r ← slot i
    let r' ← opt (setAt r ks o)
    setSlot i r'
  | .fz _, some (.fz _) => ret ()
  | _, _ => bad
def calling (c : CallF) (mu : Option Nat) (f : Nat) (ps : List Opd) : M OD := do
  let os ← lend mu ps
  match c f os with
  | .ok o out => do
    match mu with
    | none => ret o
    | some m => do
      let p ← opt ps[m]?
      putBack p out
      ret o
  | .exn x => match mu with
    | none => fun e => .exn x e
    | some _ => bad
  | .bad => bad

/-- a target takes frozen data -/
def tgs : Tg → PyData → M Unit
  | .var i, d => setSlot i (.fz d)
  | .tup ts, .tuple ds => if ts.length = ds.length then go ts ds else bad
  | .tup _, _ => bad
where go : List Tg → List PyData → M Unit
  | t :: ts, d :: ds => do
    tgs t d
    go ts ds
  | _, _ => ret ()

def intsOf : List PyData → Option (List Int)
  | [] => some []
  | .int i :: ds => (intsOf ds).map fun is => i :: is
  | _ :: _ => none
def boolsOf : List PyData → Option (List Bool)
  | [] => some []
  | .bool i :: ds => (boolsOf ds).map fun is => i :: is
  | _ :: _ => none
def maxI : List Int → Option Int
  | [] => none
  | i :: is => some (is.foldl (fun m j => if j > m then j else m) i)
def minI : List Int → Option Int
  | [] => none
  | i :: is => some (is.foldl (fun m j => if j < m then j else m) i)
def insI (i : Int) : List Int → List Int
  | [] => [i]
  | j :: js => if i ≤ j then i :: j :: js else j :: insI i js
def sortI : List Int → List Int
  | [] => []
  | i :: is => insI i (sortI is)
def reprOk (d : PyData) : Bool := PyData.showable d && decide (d.depth ≤ 64) && decide (d.shown.length ≤ lim) && d.canLay0
def biD (b : Bi) (ds : List PyData) : Option OD := match b, ds with
  | .len, [.list xs] => some (.fz (.int xs.length))
  | .len, [.tuple xs] => some (.fz (.int xs.length))
  | .len, [.dict xs] => some (.fz (.int xs.length))
  | .len, [.str x] => if x.length ≤ lim then some (.fz (.int x.length)) else none
  | .abs, [.int i] => some (.fz (.int (if i < 0 then -i else i)))
  | .int, [.int i] => some (.fz (.int i))
  | .int, [.bool b] => some (.fz (.int (if b then 1 else 0)))
  | .bool, [.int i] => some (.fz (.bool (i != 0)))
  | .bool, [.bool b] => some (.fz (.bool b))
  | .max2, [.int i, .int j] => some (.fz (.int (if j > i then j else i)))
  | .min2, [.int i, .int j] => some (.fz (.int (if j < i then j else i)))
  | .maxL, [.list xs] => (intsOf xs).bind fun is => (maxI is).map fun i => .fz (.int i)
  | .minL, [.list xs] => (intsOf xs).bind fun is => (minI is).map fun i => .fz (.int i)
  | .sum, [.list xs] => (intsOf xs).map fun is => .fz (.int is.sum)
  | .list, [.list xs] => some (fzs xs)
  | .list, [.tuple xs] => some (fzs xs)
  | .tuple, [.list xs] => some (.fz (.tuple xs))
  | .tuple, [.tuple xs] => some (.fz (.tuple xs))
  | .repr, [d] => if reprOk d then some (.fz (.str d.shown)) else none
  | .any, [.list xs] => (boolsOf xs).map fun bs => .fz (.bool (bs.any id))
  | .all, [.list xs] => (boolsOf xs).map fun bs => .fz (.bool (bs.all id))
  | .sorted, [.list xs] => (intsOf xs).map fun is => fzs ((sortI is).map .int)
  | _, _ => none
def isKi (t : Ki) (d : PyData) : Bool := match t, d with
  | .int, .int _ => true
  | .int, .bool _ => true
  | .bool, .bool _ => true
  | .tup, .tuple _ => true
  | .str, .str _ => true
  | .list, .list _ => true
  | _, _ => false
/-- built-ins whose answer shares what it is given -/
def Bi.shares : Bi → Bool
  | .list | .tuple => true
  | _ => false
def keepAll : List Opd → M (List PyData)
  | [] => ret []
  | p :: ps => do
    let d ← keep p
    let ds ← keepAll ps
    ret (d :: ds)

def biArgs (b : Bi) (ps : List Opd) : M (List PyData) := if b.shares then keepAll ps else seeAll ps

/-- a method that changes the tree o in place: what it gives, the tree behind it -/
def methD (m : Mt) (o : OD) (ds : List PyData) : Option (PyData × OD) := match m, o, ds with
  | .append, .lst os, [d] => if os.length < lim then some (.none, .lst (os ++ [.fz d])) else none
  | .pop, .lst os, [] => os.getLast?.bind fun p => (isFz p).map fun d => (d, .lst os.dropLast)
  | .popAt, .lst os, [.int i] => if -(2 ^ 63) ≤ i ∧ i < 2 ^ 63 then (place os.length i).bind fun j => (os[j]?).bind fun p => (isFz p).map fun d => (d, .lst (os.eraseIdx j)) else none
  | .insert, .lst os, [.int i, d] => if i = 0 ∧ os.length < lim then some (.none, .lst (.fz d :: os)) else none
  | .extend, .lst os, [.list ds] => if os.length + ds.length ≤ lim then some (.none, .lst (os ++ ds.map .fz)) else none
  | _, _, _ => none

/-- the place is a list -/
def isLst (r : Rv) : M Unit := match r with
  | .at i ks => do
    let o ← slotAt i ks
    match o with
    | .lst _ => ret ()
    | _ => bad
  | .tmp _ => bad
def isAt : Rv → M Unit
  | .at _ _ => ret ()
  | .tmp _ => bad
def rngOk (i : Int) : Bool := decide (-(2 ^ 62) ≤ i) && decide (i < 2 ^ 62)
def rngL (lo : Int) (n : Nat) (c : Int) : List PyData := (List.range n).map fun (k : Nat) => PyData.int (lo + (k : Int) * c)
/-- a list or a tuple of a range -/
def lrgD (t : Bool) (d e : PyData) : Option OD := match d, e with
  | .int i, .int j => if rngOk i && (rngOk j && decide ((j - i).toNat ≤ lim)) then some (if t then .fz (.tuple (rngL i (j - i).toNat 1)) else fzs (rngL i (j - i).toNat 1)) else none
  | _, _ => none
def enumL (n : Nat) : List PyData → List PyData
  | [] => []
  | d :: ds => .tuple [.int n, d] :: enumL (n + 1) ds
def zipL : List PyData → List PyData → List PyData
  | d :: ds, e :: es => .tuple [d, e] :: zipL ds es
  | _, _ => []
def seqD : PyData → Option (List PyData)
  | .list ds => some ds
  | .tuple ds => some ds
  | _ => none
def cutEnds : List PyData → Option (Option Int)
  | [] => some none
  | [.int i] => some (some i)
  | _ => none
def cutP (ps : List Opd) : M (Option Int) := do
  let ds ← seeAll ps
  opt (cutEnds ds)
/-- the slots of a block's own names, behind the block: what was frozen ahead is there again, all else is gone -/
def restore (e₀ : Env) : List Nat → Env → Env
  | [], e => e
  | i :: is, e => (restore e₀ is e).set i (match e₀[i]? with
    | some (some (.fz d)) => some (.fz d)
    | _ => none)

def rngK : List PyData → M (List PyData)
  | [.int n] => if rngOk n then ret (rngL 0 n.toNat 1) else bad
  | [.int i, .int j] => if rngOk i && rngOk j then ret (rngL i (j - i).toNat 1) else bad
  | [.int i, .int j, .int k] => if rngOk i && rngOk j && decide (k = -1) then ret (rngL i (i - j).toNat (-1)) else bad
  | _ => bad
def zipK : List PyData → M (List PyData)
  | [.list xs, .list ys] => ret (zipL xs ys)
  | [.tuple xs, .tuple ys] => ret (zipL xs ys)
  | _ => bad
def varK (i : Nat) : OD → M Rv
  | .fz d => ret (.tmp (.fz d))
  | _ => ret (.at i [])
def negK : PyData → M Rv
  | .int i => ret (.tmp (.fz (.int (-i))))
  | _ => bad
def notK : PyData → M Rv
  | .bool k => ret (.tmp (.fz (.bool (!k))))
  | _ => bad
def boolK (y n : M Rv) : PyData → M Rv
  | .bool true => y
  | .bool false => n
  | _ => bad
def revK : PyData → M Rv
  | .list ds => ret (.tmp (fzs ds.reverse))
  | _ => bad
/-- a child of a tree that is come to at a place -/
def kidK (j : Nat) (ks : List PyData) (k : PyData) : OD → M Rv
  | .fz d => ret (.tmp (.fz d))
  | _ => ret (.at j (ks ++ [k]))
def nodeK (j : Nat) (ks : List PyData) (k : PyData) : OD → M Rv
  | .fz d => do
    let x ← opt (idxD d k)
    ret (.tmp (.fz x))
  | o => do
    let x ← opt (kid o k)
    kidK j ks k x
def idxK (p : Opd) (k : PyData) : M Rv := match p with
  | .fz d => do
    let x ← opt (idxD d k)
    ret (.tmp (.fz x))
  | .at j ks => do
    let o ← slotAt j ks
    nodeK j ks k o
/-- a comprehension's turns -/
def turns (body : PyData → M (Option PyData)) : List PyData → List PyData → M (List PyData)
  | [], acc => ret acc
  | d :: ds, acc => do
    let x ← body d
    match x with
    | some y => if acc.length < lim then turns body ds (acc ++ [y]) else bad
    | none => turns body ds acc
/-- the slots as a comprehension's turn finds them -/
def wipeE : Env → List Nat → Env
  | e, [] => e
  | e, i :: is => (wipeE e is).set i none
def compK (own : List Nat) (body : PyData → M (Option PyData)) (ds : List PyData) : M Rv := fun e => match turns (fun d e' => body d (wipeE e' own)) ds [] e with
  | .ok ys e' => .ok (.tmp (fzs ys)) (restore e own e')
  | _ => .bad
section
variable (mus : Nat → Option Nat) (c : CallF)
/-- helper: a dict's parts -/
def dks : OD → List PyData
  | .dct ks _ => ks
  | _ => []
def dos : OD → List OD
  | .dct _ os => os
  | _ => []
mutual
def ev : E → M Rv
  | .var i => do
    let o ← slot i
    varK i o
  | .lit d => ret (.tmp (.fz d))
  | .glb _ d => ret (.tmp (.fz d))
  | .bin o a b => do
    let p ← (ev a >>= opd)
    let q ← (ev b >>= opd)
    let x ← keep p
    let y ← keep q
    let z ← opt (binD o x y)
    ret (.tmp z)
  | .neg a => do
    let p ← (ev a >>= opd)
    let x ← see p
    negK x
  | .cmp o a b => do
    let p ← (ev a >>= opd)
    let q ← (ev b >>= opd)
    let x ← see p
    let y ← see q
    let z ← opt (cmpD o x y)
    ret (.tmp (.fz (.bool z)))
  | .cmp2 o o' a b c => do
    let p ← (ev a >>= opd)
    let q ← (ev b >>= opd)
    let x ← see p
    let y ← see q
    let z ← opt (cmpD o x y)
    if z then do
      let r ← (ev c >>= opd)
      let y ← see q
      let w ← see r
      let z ← opt (cmpD o' y w)
      ret (.tmp (.fz (.bool z)))
    else ret (.tmp (.fz (.bool false)))
  | .and a b => do
    let p ← (ev a >>= opd)
    let x ← see p
    boolK (ev b) (ret (.tmp (.fz (.bool false)))) x
  | .or a b => do
    let p ← (ev a >>= opd)
    let x ← see p
    boolK (ret (.tmp (.fz (.bool true)))) (ev b) x
  | .not a => do
    let p ← (ev a >>= opd)
    let x ← see p
    notK x
  | .ite c a b => do
    let p ← (ev c >>= opd)
    let x ← see p
    let k ← opt (truD x)
    if k then ev a else ev b
  | .tup es => do
    let ps ← evs es
    let ds ← giveAll ps
    if ds.length ≤ lim then ret (.tmp (.fz (.tuple ds))) else bad
  | .lst es => do
    let os ← evo es
    if os.length ≤ lim then ret (.tmp (.lst os)) else bad
  | .dct kvs => do
    let es ← evd kvs
    ret (.tmp (es.foldl (fun o p => .dct (setKV (dks o) (dos o) p.1 p.2).1 (setKV (dks o) (dos o) p.1 p.2).2) (.dct [] [])))
  | .idx a i => do
    let p ← (ev a >>= opd)
    let q ← (ev i >>= opd)
    let k ← see q
    idxK p k
  | .slc a lo hi => do
    let p ← (ev a >>= opd)
    let l ← (evs lo >>= cutP)
    let h ← (evs hi >>= cutP)
    let d ← keep p
    let x ← opt (cutD d l h)
    ret (.tmp x)
  | .rev a => do
    let p ← (ev a >>= opd)
    let d ← keep p
    revK d
  | .lrg t a => do
    let p ← (ev a >>= opd)
    let x ← see p
    let z ← opt (lrgD t (.int 0) x)
    ret (.tmp z)
  | .lrg2 t a b => do
    let p ← (ev a >>= opd)
    let q ← (ev b >>= opd)
    let x ← see p
    let y ← see q
    let z ← opt (lrgD t x y)
    ret (.tmp z)
  | .call f es => do
    let ps ← evs es
    let o ← calling c (mus f) f ps
    ret (.tmp o)
  | .kcall f es p => do
    let ps ← evs es
    let ps ← opt (p.mapM fun k => ps[k]?)
    let o ← calling c (mus f) f ps
    ret (.tmp o)
  | .bi b es => do
    let ps ← evs es
    let ds ← biArgs b ps
    let o ← opt (biD b ds)
    ret (.tmp o)
  | .isi t a => do
    let p ← (ev a >>= opd)
    let x ← see p
    ret (.tmp (.fz (.bool (isKi t x))))
  | .comp t s cs x own => do
    let ds ← evi s
    compK own (fun d => do
      tgs t d
      let k ← evc cs
      if k then do
        let y ← (ev x >>= valD)
        ret (some y)
      else ret none) ds
  | .meth m a es => do
    let p ← ev a
    isLst p
    let ps ← evs es
    let ds ← giveAll ps
    match p with
    | .at i ks => do
      let r ← slot i
      let o ← opt (getAt r ks)
      let x ← opt (methD m o ds)
      let r' ← opt (setAt r ks x.2)
      setSlot i r'
      ret (.tmp (.fz x.1))
    | .tmp _ => bad
/-- operands, from the left -/
def evs : List E → M (List Opd)
  | [] => ret []
  | a :: es => do
    let p ← (ev a >>= opd)
    let ps ← evs es
    ret (p :: ps)
/-- values, from the left -/
def evo : List E → M (List OD)
  | [] => ret []
  | a :: es => do
    let o ← (ev a >>= val)
    let os ← evo es
    ret (o :: os)
/-- keys and values, one behind the other -/
def evd : List E → M (List (PyData × OD))
  | [] => ret []
  | [_] => bad
  | k :: a :: es => do
    let d ← (ev k >>= valD)
    let o ← (ev a >>= val)
    let os ← evd es
    if keyOk d then ret ((d, o) :: os) else bad
/-- tests, all -/
def evc : List E → M Bool
  | [] => ret true
  | a :: _ => do
    let p ← (ev a >>= opd)
    let x ← see p
    opt (truD x)
def evi : It → M (List PyData)
  | .of a => do
    let d ← (ev a >>= valD)
    opt (seqD d)
  | .rng es => do
    let ps ← evs es
    let ds ← seeAll ps
    rngK ds
  | .enm a => do
    let d ← (ev a >>= valD)
    let ds ← opt (seqD d)
    ret (enumL 0 ds)
  | .zip es => do
    let ps ← evs es
    let ds ← giveAll ps
    zipK ds
  | .rvs a => do
    let d ← (ev a >>= valD)
    let ds ← opt (seqD d)
    ret ds.reverse
end
section
variable (mus : Nat → Option Nat)
mutual
/-- nothing that stands is changed by it -/
def quiet : E → Bool
  | .var _ | .lit _ | .glb _ _ => true
  | .bin _ a b | .cmp _ a b | .and a b | .or a b | .idx a b | .lrg2 _ a b => quiet a && quiet b
  | .neg a | .not a | .rev a | .isi _ a | .lrg _ a => quiet a
  | .cmp2 _ _ a b c | .ite a b c => quiet a && (quiet b && quiet c)
  | .tup es | .lst es | .dct es | .bi _ es => quiets es
  | .slc a lo hi => quiet a && (quiets lo && quiets hi)
  | .call f es => (mus f).isNone && quiets es
  | .kcall f es _ => (mus f).isNone && quiets es
  | .comp _ s cs x _ => quietI s && (quiets cs && quiet x)
  | .meth _ _ _ => false
def quiets : List E → Bool
  | [] => true
  | a :: es => quiet a && quiets es
def quietI : It → Bool
  | .of a | .enm a | .rvs a => quiet a
  | .rng es => quiets es
  | .zip es => quiets es
end
/-- it gives no place within a tree -/
def shallow : E → Bool
  | .idx _ _ => false
  | .ite _ a b => shallow a && shallow b
  | .and _ b | .or _ b => shallow b
  | _ => true
end
/-! ## statements -/
/-- a place is stored to -/
def putD (o : OD) (k d : PyData) : Option OD := match o, k with
  | .lst os, .int i => (place os.length i).map fun j => .lst (os.set j (.fz d))
  | _, _ => none
def putAt (r : Rv) (k d : PyData) : M Unit := match r with
  | .at i ks => do
    let r ← slot i
    let o ← opt (getAt r ks)
    let o' ← opt (putD o k d)
    let r' ← opt (setAt r ks o')
    setSlot i r'
  | .tmp _ => bad
/-- what a return hands back: a slot's own tree leaves the slot -/
def leave (r : Rv) : M OD := match r with
  | .tmp o => ret o
  | .at i ks => do
    let o ← slot i
    if ks.isEmpty then fun e => .ok o (e.set i none) else bad
def forL (body : PyData → M Fl) : List PyData → M Fl
  | [] => ret .nx
  | d :: ds => do
    let f ← body d
    match f with
    | .nx => forL body ds
    | .ct => forL body ds
    | .bk => ret .nx
    | .rt o => ret (.rt o)
def whileL (test : M Bool) (body : M Fl) : Nat → M Fl
  | 0 => bad
  | n + 1 => do
    let k ← test
    if k then do
      let f ← body
      match f with
      | .nx => whileL test body n
      | .ct => whileL test body n
      | .bk => ret .nx
      | .rt o => ret (.rt o)
    else ret .nx
def test (a : E) : M Bool := do
  let p ← (ev mus c a >>= opd)
  let x ← see p
  opt (truD x)
/-- written values to targets, from the left -/
def stores : List Tt → List OD → M Unit
  | .var i :: ts, o :: os => do
    setSlot i o
    stores ts os
  | .idx a i :: ts, o :: os => do
    let d ← opt (frz o)
    let p ← ev mus c a
    isAt p
    let q ← (ev mus c i >>= opd)
    let k ← see q
    putAt p k d
    stores ts os
  | [], [] => ret ()
  | _, _ => bad
mutual
def ex : S → M Fl
  | .expr a => do
    let _ ← (ev mus c a >>= opd)
    ret .nx
  | .set i a => do
    let o ← (ev mus c a >>= val)
    setSlot i o
    ret .nx
  | .unp t a => do
    let d ← (ev mus c a >>= valD)
    tgs t d
    ret .nx
  | .par ts es => do
    let os ← evo mus c es
    stores mus c ts os
    ret .nx
  | .put a i x => do
    let d ← (ev mus c x >>= valD)
    let p ← ev mus c a
    isAt p
    let q ← (ev mus c i >>= opd)
    let k ← see q
    putAt p k d
    ret .nx
  | .ite t a b => do
    let k ← test mus c t
    if k then exs a else exs b
  | .whl t b => whileL (test mus c t) (exs b) wf
  | .fr t s b => do
    let ds ← evi mus c s
    forL (fun d => do
      tgs t d
      exs b) ds
  | .rt a => do
    let o ← (ev mus c a >>= leave)
    ret (.rt o)
  | .rtN => ret (.rt (.fz .none))
  | .pass => ret .nx
  | .cont => ret .ct
  | .brk => ret .bk
def exs : List S → M Fl
  | [] => ret .nx
  | s :: r => do
    let f ← ex s
    match f with
    | .nx => exs r
    | f => ret f
end
end
def behind (fn : Fn) : Out Fl → CRes
  | .ok f e => match f, fn.mu with
    | .nx, none => .ok (.fz .none) none
    | .rt o, none => .ok o none
    | .nx, some m => match e[m]? with
      | some (some p) => .ok (.fz .none) (some p)
      | _ => .bad
    | .rt o, some m => match e[m]? with
      | some (some p) => .ok o (some p)
      | _ => .bad
    | _, _ => .bad
  | .exn x _ => .exn x
  | .bad => .bad
/-- a def called, at most n deep -/
def callN (G : Nat → Option Fn) : Nat → CallF
  | 0, _, _ => .bad
  | n + 1, f, os => match G f with
    | none => .bad
    | some fn => if os.length = fn.np then behind fn (exs (fun g => (G g).bind (·.mu)) (callN G n) fn.body (os.map some ++ List.replicate (fn.ns - fn.np) none)) else .bad
end HW
end

section
set_option Elab.async false
set_option linter.all false
set_option maxRecDepth 100000
/-! # How the machine's values and heap bear the trees of the small language -/
namespace HW
open PySem PySem.Spec PyProof.Rows L2

/-- a key of a dict -/
def keyR : PyData → Key → Prop
  | .int i, y => y = .inl i
  | .str x, y => y = .inr x
  | _, _ => False
def keysR : List PyData → List Key → Prop
  | [], ys => ys = []
  | k :: ks, ys => ∃ y r, ys = y :: r ∧ keyR k y ∧ keysR ks r
/-- a tuple of the module's own -/
def KT (K : PySem.W.Frag) (a : Addr) (xs : List V) : Prop :=
  ∃ (o : Obj) (its : Array Value) (n : Nat), K.lookup a = some o ∧ o.cls = .type "tuple" ∧ o.data = .seq its n ∧ its.size ≤ sizeLine ∧ Vals xs its.toList
section
variable (K : PySem.W.Frag) (F : Addr → Prop) (H : Hp)
mutual
/-- v bears the frozen data d, all of whose places lie in F -/
def Fz : PyData → V → Prop
  | .none, v => v = .non
  | .bool b, v => v = .bl b
  | .int i, v => v = .int i
  | .str x, v => v = .str x
  | .list ds, v => ∃ a xs, v = .ref a ∧ F a ∧ Rd H a (.lst xs) ∧ FzAll ds xs
  | .tuple ds, v => ∃ a xs, v = .ref a ∧ ((F a ∧ Rd H a (.tup xs)) ∨ KT K a xs) ∧ FzAll ds xs
  | .dict kvs, v => ∃ a es, v = .ref a ∧ F a ∧ Rd H a (.dK es) ∧ FzKv kvs es
def FzAll : List PyData → List V → Prop
  | [], xs => xs = []
  | d :: ds, xs => ∃ x r, xs = x :: r ∧ Fz d x ∧ FzAll ds r
def FzKv : List (PyData × PyData) → List (Key × V) → Prop
  | [], es => es = []
  | (k, d) :: kvs, es => ∃ y x r, es = (y, x) :: r ∧ keyR k y ∧ Fz d x ∧ FzKv kvs r
end
mutual
/-- v bears the owned tree o, whose own places are S -/
def Ow : OD → V → List Addr → Prop
  | .fz d, v, S => Fz K F H d v ∧ S = []
  | .lst os, v, S => ∃ a xs S', v = .ref a ∧ H a = some (.lst xs) ∧ OwAll os xs S' ∧ S = a :: S'
  | .dct ks os, v, S => ∃ a es S', v = .ref a ∧ H a = some (.dK es) ∧ keysR ks (es.map (·.1)) ∧ OwAll os (es.map (·.2)) S' ∧ S = a :: S'
  | .ins _ _ _, _, _ => False
def OwAll : List OD → List V → List Addr → Prop
  | [], xs, S => xs = [] ∧ S = []
  | o :: os, xs, S => ∃ x r S1 S2, xs = x :: r ∧ Ow o x S1 ∧ OwAll os r S2 ∧ S = S1 ++ S2
end
/-- the slots -/
def OwS : Env → L2.St → List Addr → Prop
  | [], σ, S => σ = [] ∧ S = []
  | none :: e, σ, S => ∃ x r, σ = x :: r ∧ OwS e r S
  | some o :: e, σ, S => ∃ v r S1 S2, σ = some v :: r ∧ Ow K F H o v S1 ∧ OwS e r S2 ∧ S = S1 ++ S2
end

section
variable {K : PySem.W.Frag} {F F' : Addr → Prop} {H H' : Hp}
mutual
theorem Fz.mono (hF : ∀ b, F b → F' b) (hH : ∀ b o, F b → H b = some o → H' b = some o) : ∀ (d : PyData) (v : V), Fz K F H d v → Fz K F' H' d v
  | .none, _, h => h
  | .bool _, _, h => h
  | .int _, _, h => h
  | .str _, _, h => h
  | .list ds, v, h => by
    obtain ⟨a, xs, e, p, q, h2⟩ := h
    exact ⟨a, xs, e, hF a p, q.imp (hH a _ p) fun ⟨o, z⟩ => ⟨o, hH a _ p z⟩, FzAll.mono hF hH ds xs h2⟩
  | .tuple ds, v, h => by
    obtain ⟨a, xs, e, h1, h2⟩ := h
    refine ⟨a, xs, e, h1.imp (fun ⟨p, q⟩ => ⟨hF a p, q.imp (hH a _ p) fun ⟨o, z⟩ => ⟨o, hH a _ p z⟩⟩) id, FzAll.mono hF hH ds xs h2⟩
  | .dict kvs, v, h => by
    obtain ⟨a, es, e, p, q, h2⟩ := h
    exact ⟨a, es, e, hF a p, q.imp (hH a _ p) fun ⟨o, z⟩ => ⟨o, hH a _ p z⟩, FzKv.mono hF hH kvs es h2⟩
theorem FzAll.mono (hF : ∀ b, F b → F' b) (hH : ∀ b o, F b → H b = some o → H' b = some o) : ∀ (ds : List PyData) (xs : List V), FzAll K F H ds xs → FzAll K F' H' ds xs
  | [], _, h => h
  | d :: ds, xs, h => by
    obtain ⟨x, r, e, h1, h2⟩ := h
    exact ⟨x, r, e, Fz.mono hF hH d x h1, FzAll.mono hF hH ds r h2⟩
theorem FzKv.mono (hF : ∀ b, F b → F' b) (hH : ∀ b o, F b → H b = some o → H' b = some o) : ∀ (kvs : List (PyData × PyData)) (es : List (Key × V)), FzKv K F H kvs es → FzKv K F' H' kvs es
  | [], _, h => h
  | (k, d) :: kvs, es, h => by
    obtain ⟨y, x, r, e, h0, h1, h2⟩ := h
    exact ⟨y, x, r, e, h0, Fz.mono hF hH d x h1, FzKv.mono hF hH kvs r h2⟩
end
mutual
theorem Ow.stay (hF : ∀ b, F b → F' b) (hH : ∀ b o, F b → H b = some o → H' b = some o) : ∀ (o : OD) (v : V) (S : List Addr), (∀ b o, b ∈ S → H b = some o → H' b = some o) → Ow K F H o v S → Ow K F' H' o v S
  | .fz d, v, S, _, h => ⟨Fz.mono hF hH d v h.1, h.2⟩
  | .lst os, v, S, hs, h => by
    obtain ⟨a, xs, S', e, h1, h2, rfl⟩ := h
    exact ⟨a, xs, S', e, hs a _ List.mem_cons_self h1, OwAll.stay hF hH os xs S' (fun b o hb => hs b o (List.mem_cons_of_mem _ hb)) h2, rfl⟩
  | .dct ks os, v, S, hs, h => by
    obtain ⟨a, es, S', e, h1, hk, h2, rfl⟩ := h
    exact ⟨a, es, S', e, hs a _ List.mem_cons_self h1, hk, OwAll.stay hF hH os _ S' (fun b o hb => hs b o (List.mem_cons_of_mem _ hb)) h2, rfl⟩
  | .ins _ _ _, _, _, _, h => h.elim
theorem OwAll.stay (hF : ∀ b, F b → F' b) (hH : ∀ b o, F b → H b = some o → H' b = some o) : ∀ (os : List OD) (vs : List V) (S : List Addr), (∀ b o, b ∈ S → H b = some o → H' b = some o) → OwAll K F H os vs S → OwAll K F' H' os vs S
  | [], _, _, _, h => h
  | o :: os, vs, S, hs, h => by
    obtain ⟨x, r, S1, S2, e, h1, h2, rfl⟩ := h
    exact ⟨x, r, S1, S2, e, Ow.stay hF hH o x S1 (fun b o hb => hs b o (List.mem_append_left _ hb)) h1, OwAll.stay hF hH os r S2 (fun b o hb => hs b o (List.mem_append_right _ hb)) h2, rfl⟩
end
theorem OwS.stay (hF : ∀ b, F b → F' b) (hH : ∀ b o, F b → H b = some o → H' b = some o) : ∀ (e : Env) (σ : L2.St) (S : List Addr), (∀ b o, b ∈ S → H b = some o → H' b = some o) → OwS K F H e σ S → OwS K F' H' e σ S
  | [], _, _, _, h => h
  | none :: e, σ, S, hs, h => by
    obtain ⟨x, r, e1, h1⟩ := h
    exact ⟨x, r, e1, OwS.stay hF hH e r S hs h1⟩
  | some o :: e, σ, S, hs, h => by
    obtain ⟨x, r, S1, S2, e1, h1, h2, rfl⟩ := h
    exact ⟨x, r, S1, S2, e1, Ow.stay hF hH o x S1 (fun b o hb => hs b o (List.mem_append_left _ hb)) h1, OwS.stay hF hH e r S2 (fun b o hb => hs b o (List.mem_append_right _ hb)) h2, rfl⟩
theorem FzAll.length : ∀ {ds : List PyData} {xs : List V}, FzAll K F H ds xs → xs.length = ds.length
  | [], _, h => by cases h; rfl
  | d :: ds, _, h => by
    obtain ⟨x, r, rfl, _, h2⟩ := h
    simp [FzAll.length h2]
theorem OwAll.length : ∀ {os : List OD} {vs : List V} {S : List Addr}, OwAll K F H os vs S → vs.length = os.length
  | [], _, _, h => by cases h.1; rfl
  | o :: os, _, _, h => by
    obtain ⟨x, r, S1, S2, rfl, _, h2, _⟩ := h
    simp [OwAll.length h2]
theorem keysR.length : ∀ {ks : List PyData} {ys : List Key}, keysR ks ys → ys.length = ks.length
  | [], _, h => by cases h; rfl
  | k :: ks, _, h => by
    obtain ⟨x, r, rfl, _, h2⟩ := h
    simp [keysR.length h2]
theorem FzKv.of : ∀ {ks ds : List PyData} {es : List (Key × V)}, keysR ks (es.map (·.1)) → FzAll K F H ds (es.map (·.2)) → FzKv K F H (ks.zip ds) es
  | [], ds, es, h, g => by
    cases es with
    | nil => rfl
    | cons p r => cases h
  | k :: ks, ds, es, h, g => by
    cases es with
    | nil => obtain ⟨y, r, e, _⟩ := h; cases e
    | cons p r =>
      obtain ⟨y, r', e, h1, h2⟩ := h
      rw [List.map_cons] at e
      injection e with e1 e2
      subst e1 e2
      cases ds with
      | nil => cases g
      | cons d ds =>
        obtain ⟨x, r', e, g1, g2⟩ := g
        rw [List.map_cons] at e
        injection e with e1 e2
        subst e1 e2
        exact ⟨p.1, p.2, r, rfl, h1, g1, FzKv.of h2 g2⟩
theorem FzKv.keys : ∀ {kvs : List (PyData × PyData)} {es : List (Key × V)}, FzKv K F H kvs es → keysR (kvs.map (·.1)) (es.map (·.1)) ∧ FzAll K F H (kvs.map (·.2)) (es.map (·.2))
  | [], _, h => by cases h; exact ⟨rfl, rfl⟩
  | (k, d) :: kvs, _, h => by
    obtain ⟨y, x, r, rfl, h0, h1, h2⟩ := h
    obtain ⟨g1, g2⟩ := FzKv.keys h2
    exact ⟨⟨y, _, rfl, h0, g1⟩, ⟨x, _, rfl, h1, g2⟩⟩
mutual
/-- an owned tree, frozen -/
theorem Ow.frz (hF : ∀ b, F b → F' b) : ∀ (o : OD) (v : V) (S : List Addr) (d : PyData), (∀ b ∈ S, F' b) → Ow K F H o v S → HW.frz o = some d → Fz K F' H d v
  | .fz d, v, S, d', _, h, e => by
    cases e
    exact Fz.mono hF (fun _ _ _ q => q) d v h.1
  | .lst os, v, S, d, hs, h, e => by
    obtain ⟨a, xs, S', rfl, h1, h2, rfl⟩ := h
    obtain ⟨ds, e1, rfl⟩ := Option.map_eq_some_iff.mp e
    exact ⟨a, xs, rfl, hs a List.mem_cons_self, .inl h1, OwAll.frz hF os xs S' ds (fun b hb => hs b (List.mem_cons_of_mem _ hb)) h2 e1⟩
  | .dct ks os, v, S, d, hs, h, e => by
    obtain ⟨a, es, S', rfl, h1, hk, h2, rfl⟩ := h
    obtain ⟨ds, e1, rfl⟩ := Option.map_eq_some_iff.mp e
    exact ⟨a, es, rfl, hs a List.mem_cons_self, .inl h1, FzKv.of hk (OwAll.frz hF os _ S' ds (fun b hb => hs b (List.mem_cons_of_mem _ hb)) h2 e1)⟩
  | .ins _ _ _, _, _, _, _, h, _ => h.elim
theorem OwAll.frz (hF : ∀ b, F b → F' b) : ∀ (os : List OD) (vs : List V) (S : List Addr) (ds : List PyData), (∀ b ∈ S, F' b) → OwAll K F H os vs S → frzs os = some ds → FzAll K F' H ds vs
  | [], _, _, _, _, h, e => by
    cases e
    exact h.1
  | o :: os, vs, S, ds, hs, h, e => by
    obtain ⟨x, r, S1, S2, rfl, h1, h2, rfl⟩ := h
    obtain ⟨d, e1, e2⟩ := Option.bind_eq_some_iff.mp e
    obtain ⟨ds', e3, rfl⟩ := Option.map_eq_some_iff.mp e2
    exact ⟨x, r, rfl, Ow.frz hF o x S1 d (fun b hb => hs b (List.mem_append_left _ hb)) h1 e1, OwAll.frz hF os r S2 ds' (fun b hb => hs b (List.mem_append_right _ hb)) h2 e3⟩
end
/-- places of an owned tree are tracked -/
theorem Ow.trk : ∀ {o : OD} {v : V} {S : List Addr}, Ow K F H o v S → ∀ b ∈ S, H b ≠ none := by
  have key : (∀ (o : OD) (v : V) (S : List Addr), Ow K F H o v S → ∀ b ∈ S, H b ≠ none) := by
    intro o
    refine OD.rec (motive_1 := fun o => ∀ (v : V) (S : List Addr), Ow K F H o v S → ∀ b ∈ S, H b ≠ none) (motive_2 := fun os => ∀ (vs : List V) (S : List Addr), OwAll K F H os vs S → ∀ b ∈ S, H b ≠ none) ?_ ?_ ?_ ?_ ?_ ?_ o
    · intro d v S h b hb
      rw [h.2] at hb
      cases hb
    · intro os ih v S h b hb
      obtain ⟨a, xs, S', rfl, h1, h2, rfl⟩ := h
      rcases List.mem_cons.mp hb with rfl | hb
      · rw [h1]; exact fun z => nomatch z
      · exact ih xs S' h2 b hb
    · intro ks os ih v S h b hb
      obtain ⟨a, es, S', rfl, h1, hk, h2, rfl⟩ := h
      rcases List.mem_cons.mp hb with rfl | hb
      · rw [h1]; exact fun z => nomatch z
      · exact ih _ S' h2 b hb
    · intro c fs os _ v S h
      exact h.elim
    · intro vs S h b hb
      rw [h.2] at hb
      cases hb
    · intro o os ih1 ih2 vs S h b hb
      obtain ⟨x, r, S1, S2, rfl, h1, h2, rfl⟩ := h
      rcases List.mem_append.mp hb with hb | hb
      · exact ih1 x S1 h1 b hb
      · exact ih2 r S2 h2 b hb
  intro o v S h
  exact key o v S h
theorem OwAll.trk : ∀ {os : List OD} {vs : List V} {S : List Addr}, OwAll K F H os vs S → ∀ b ∈ S, H b ≠ none
  | [], _, _, h, b, hb => by rw [h.2] at hb; cases hb
  | o :: os, _, _, h, b, hb => by
    obtain ⟨x, r, S1, S2, rfl, h1, h2, rfl⟩ := h
    rcases List.mem_append.mp hb with hb | hb
    · exact Ow.trk h1 b hb
    · exact OwAll.trk h2 b hb
theorem OwS.trk : ∀ {e : Env} {σ : L2.St} {S : List Addr}, OwS K F H e σ S → ∀ b ∈ S, H b ≠ none
  | [], _, _, h, b, hb => by rw [h.2] at hb; cases hb
  | none :: e, _, _, h, b, hb => by
    obtain ⟨x, r, e1, h1⟩ := h
    exact OwS.trk h1 b hb
  | some o :: e, _, _, h, b, hb => by
    obtain ⟨x, r, S1, S2, rfl, h1, h2, rfl⟩ := h
    rcases List.mem_append.mp hb with hb | hb
    · exact Ow.trk h1 b hb
    · exact OwS.trk h2 b hb
theorem OwS.length : ∀ {e : Env} {σ : L2.St} {S : List Addr}, OwS K F H e σ S → σ.length = e.length
  | [], _, _, h => by cases h.1; rfl
  | none :: e, _, _, h => by
    obtain ⟨x, r, rfl, h1⟩ := h
    simp [OwS.length h1]
  | some o :: e, _, _, h => by
    obtain ⟨x, r, S1, S2, rfl, h1, h2, rfl⟩ := h
    simp [OwS.length h2]
end

/-- what a piece of the run does to the heap: q: nothing that stood is changed -/
structure Step (q : Bool) (H : Hp) (F : Addr → Prop) (A : List Addr) (H' : Hp) (F' : Addr → Prop) (A' : List Addr) : Prop where
  keep : ∀ b o, H b = some o → (q = true ∨ b ∉ A) → H' b = some o
  trk : ∀ b, H b ≠ none → H' b ≠ none
  fm : ∀ b, F b → F' b
  fn : ∀ b, F' b → F b ∨ b ∈ A ∨ H b = none
  sn : ∀ b ∈ A', b ∈ A ∨ H b = none
theorem Step.refl {q : Bool} {H : Hp} {F : Addr → Prop} {A : List Addr} : Step q H F A H F A := ⟨fun _ _ h _ => h, fun _ h => h, fun _ h => h, fun _ h => .inl h, fun _ h => .inl h⟩
theorem Step.trans {q q' : Bool} {H H1 H2 : Hp} {F F1 F2 : Addr → Prop} {A A1 A2 : List Addr} (a : Step q H F A H1 F1 A1) (b : Step q' H1 F1 A1 H2 F2 A2) : Step (q && q') H F A H2 F2 A2 where
  keep := fun c o h hc => by
    have h1 : H1 c = some o := a.keep c o h (hc.imp (fun z => by rw [Bool.and_eq_true] at z; exact z.1) id)
    refine b.keep c o h1 ?_
    rcases hc with z | z
    · rw [Bool.and_eq_true] at z; exact .inl z.2
    · refine .inr fun z1 => ?_
      rcases a.sn c z1 with z2 | z2
      · exact z z2
      · rw [h] at z2; cases z2
  trk := fun c h => b.trk c (a.trk c h)
  fm := fun c h => b.fm c (a.fm c h)
  fn := fun c h => by
    rcases b.fn c h with z | z | z
    · exact a.fn c z
    · rcases a.sn c z with z | z
      · exact .inr (.inl z)
      · exact .inr (.inr z)
    · refine .inr (.inr ?_)
      cases e : H c with
      | none => rfl
      | some o => exact absurd z (a.trk c (by rw [e]; exact fun z => nomatch z))
  sn := fun c h => by
    rcases b.sn c h with z | z
    · exact a.sn c z
    · refine .inr ?_
      cases e : H c with
      | none => rfl
      | some o => exact absurd z (a.trk c (by rw [e]; exact fun z => nomatch z))
theorem Step.weak {q q' : Bool} {H H1 : Hp} {F F1 : Addr → Prop} {A A1 : List Addr} (a : Step q H F A H1 F1 A1) (h : q' = true → q = true) : Step q' H F A H1 F1 A1 :=
  ⟨fun b o e z => a.keep b o e (z.imp h id), a.trk, a.fm, a.fn, a.sn⟩
/-- from more -/
theorem Step.more {q : Bool} {H H1 : Hp} {F F1 : Addr → Prop} {A A1 B : List Addr} (a : Step q H F A H1 F1 A1) : Step q H F (A ++ B) H1 F1 (A1 ++ B) where
  keep := fun b o e z => a.keep b o e (z.imp id fun z1 z2 => z1 (List.mem_append_left _ z2))
  trk := a.trk
  fm := a.fm
  fn := fun b h => by
    rcases a.fn b h with z | z | z
    · exact .inl z
    · exact .inr (.inl (List.mem_append_left _ z))
    · exact .inr (.inr z)
  sn := fun b h => by
    rcases List.mem_append.mp h with h | h
    · rcases a.sn b h with z | z
      · exact .inl (List.mem_append_left _ z)
      · exact .inr z
    · exact .inl (List.mem_append_right _ h)
/-- the same places in another order, fewer behind -/
theorem Step.perm {q : Bool} {H H1 : Hp} {F F1 : Addr → Prop} {A A1 B B1 : List Addr} (a : Step q H F A H1 F1 A1) (h : ∀ b, b ∈ A ↔ b ∈ B) (h1 : ∀ b ∈ B1, b ∈ A1) : Step q H F B H1 F1 B1 :=
  ⟨fun b o e z => a.keep b o e (z.imp id fun z1 z2 => z1 ((h b).mp z2)), a.trk, a.fm, fun b z => (a.fn b z).imp id fun z => z.imp (h b).mp id, fun b z => (a.sn b (h1 b z)).imp (h b).mp id⟩

/-- what is known between two pieces: the slots, the values at hand, their places -/
structure Rel (K : PySem.W.Frag) (F : Addr → Prop) (H : Hp) (e : Env) (σ : L2.St) (os : List OD) (vs : List V) (S T : List Addr) : Prop where
  sl : OwS K F H e σ S
  tm : OwAll K F H os vs T
  nd : (S ++ T).Nodup
  ap : ∀ b ∈ S ++ T, ¬ F b
  tr : ∀ b, F b → H b ≠ none
section
variable {K : PySem.W.Frag} {F F' : Addr → Prop} {H H' : Hp} {e e' : Env} {σ : L2.St} {os : List OD} {vs : List V} {S S' T A A' : List Addr} {q : Bool}
theorem Rel.fkeep (r : Rel K F H e σ os vs S T) (s : Step q H F (S ++ T) H' F' A') : ∀ b o, F b → H b = some o → H' b = some o := fun b o hf h =>
  s.keep b o h (.inr fun z => r.ap b z hf)
theorem Rel.fz (r : Rel K F H e σ os vs S T) (s : Step q H F (S ++ T) H' F' A') {d : PyData} {v : V} (h : Fz K F H d v) : Fz K F' H' d v := Fz.mono s.fm (r.fkeep s) d v h
theorem Rel.fzAll (r : Rel K F H e σ os vs S T) (s : Step q H F (S ++ T) H' F' A') {ds : List PyData} {xs : List V} (h : FzAll K F H ds xs) : FzAll K F' H' ds xs := FzAll.mono s.fm (r.fkeep s) ds xs h
/-- the heap grew by what is not ours, or is frozen -/
theorem Rel.grow (r : Rel K F H e σ os vs S T) (hk : ∀ b o, H b = some o → H' b = some o) (hF : ∀ b, F b → F' b) (hn : ∀ b, F' b → F b ∨ (H b = none ∧ H' b ≠ none)) : Rel K F' H' e σ os vs S T ∧ Step true H F (S ++ T) H' F' (S ++ T) := by
  have tS := OwS.trk r.sl
  have tT := OwAll.trk r.tm
  refine ⟨⟨OwS.stay hF (fun b o _ => hk b o) e σ S (fun b o _ => hk b o) r.sl, OwAll.stay hF (fun b o _ => hk b o) os vs T (fun b o _ => hk b o) r.tm, r.nd, fun b hb z => ?_, fun b z => ?_⟩, fun b o h _ => hk b o h, fun b h => ?_, hF, fun b h => ?_, fun b h => .inl h⟩
  · rcases hn b z with z | ⟨z, _⟩
    · exact r.ap b hb z
    · rcases List.mem_append.mp hb with hb | hb
      · exact tS b hb z
      · exact tT b hb z
  · rcases hn b z with z | ⟨_, z⟩
    · have q := r.tr b z
      cases q' : H b with
      | none => exact absurd q' q
      | some o => rw [hk b o q']; exact fun z => nomatch z
    · exact z
  · cases q' : H b with
    | none => exact absurd q' h
    | some o => rw [hk b o q']; exact fun z => nomatch z
  · rcases hn b h with z | ⟨z, _⟩
    · exact .inl z
    · exact .inr (.inr z)
/-- a new object, not ours: garbage -/
theorem Rel.junk (r : Rel K F H e σ os vs S T) {p : Addr} {o : HO} (np : H p = none) : Rel K F (upd H p o) e σ os vs S T ∧ Step true H F (S ++ T) (upd H p o) F (S ++ T) :=
  r.grow (fun b u h => by rw [upd_ne (ne_of_none h np)]; exact h) (fun _ h => h) fun _ h => .inl h
/-- a new object, frozen -/
theorem Rel.newF (r : Rel K F H e σ os vs S T) {p : Addr} {o : HO} (np : H p = none) : Rel K (fun b => F b ∨ b = p) (upd H p o) e σ os vs S T ∧ Step true H F (S ++ T) (upd H p o) (fun b => F b ∨ b = p) (S ++ T) :=
  r.grow (fun b u h => by rw [upd_ne (ne_of_none h np)]; exact h) (fun _ h => .inl h) fun b h => by
    rcases h with h | rfl
    · exact .inl h
    · exact .inr ⟨np, by rw [upd_same]; exact fun z => nomatch z⟩
/-- a new value, beside what is known -/
structure Top (K : PySem.W.Frag) (F : Addr → Prop) (H : Hp) (o : OD) (v : V) (S Sv T : List Addr) : Prop where
  ow : Ow K F H o v Sv
  nd : (S ++ (Sv ++ T)).Nodup
  ap : ∀ b ∈ Sv, ¬ F b
theorem Rel.push {o : OD} {v : V} {Sv : List Addr} (r : Rel K F H e σ os vs S T) (t : Top K F H o v S Sv T) : Rel K F H e σ (o :: os) (v :: vs) S (Sv ++ T) :=
  ⟨r.sl, ⟨v, vs, Sv, T, rfl, t.ow, r.tm, rfl⟩, t.nd, fun b hb => by
    rcases List.mem_append.mp hb with z | z
    · exact r.ap b (List.mem_append_left _ z)
    · rcases List.mem_append.mp z with z | z
      · exact t.ap b z
      · exact r.ap b (List.mem_append_right _ z), r.tr⟩
mutual
def nodes : OD → Nat
  | .fz _ => 0
  | .lst os => nodesAll os + 1
  | .dct _ os => nodesAll os + 1
  | .ins _ _ os => nodesAll os + 1
def nodesAll : List OD → Nat
  | [] => 0
  | o :: os => nodes o + nodesAll os
end
mutual
theorem Ow.len : ∀ (o : OD) (v : V) (S : List Addr), Ow K F H o v S → S.length = nodes o
  | .fz _, _, _, h => by rw [h.2]; rfl
  | .lst os, _, _, ⟨a, xs, S', _, _, h, e⟩ => by
    subst e
    rw [List.length_cons, OwAll.len os xs S' h]; rfl
  | .dct _ os, _, _, ⟨a, es, S', _, _, _, h, e⟩ => by
    subst e
    rw [List.length_cons, OwAll.len os _ S' h]; rfl
  | .ins _ _ _, _, _, h => h.elim
theorem OwAll.len : ∀ (os : List OD) (vs : List V) (S : List Addr), OwAll K F H os vs S → S.length = nodesAll os
  | [], _, _, h => by rw [h.2]; rfl
  | o :: os, _, _, ⟨x, r, S1, S2, _, h1, h2, e⟩ => by
    subst e
    rw [List.length_append, Ow.len o x S1 h1, OwAll.len os r S2 h2]; rfl
end
theorem Rel.pop {o : OD} {v : V} {Sv : List Addr} (r : Rel K F H e σ (o :: os) (v :: vs) S (Sv ++ T)) (n : Sv.length = nodes o) : Rel K F H e σ os vs S T ∧ Top K F H o v S Sv T := by
  obtain ⟨x, rr, S1, S2, e1, h1, h2, e2⟩ := r.tm
  injection e1 with e3 e4
  subst e3 e4
  obtain ⟨rfl, rfl⟩ := List.append_inj e2 (n.trans (Ow.len o _ S1 h1).symm)
  refine ⟨⟨r.sl, h2, ?_, fun b hb => r.ap b ?_, r.tr⟩, h1, r.nd, fun b hb => r.ap b (List.mem_append_right _ (List.mem_append_left _ hb))⟩
  · exact r.nd.sublist (List.Sublist.append_left (List.sublist_append_right _ _) _)
  · rcases List.mem_append.mp hb with z | z
    · exact List.mem_append_left _ z
    · exact List.mem_append_right _ (List.mem_append_right _ z)
end
end HW
end

section
set_option Elab.async false
set_option linter.all false
set_option maxRecDepth 100000
set_option maxHeartbeats 1000000
/-! # Operators, by the data that they are given -/
namespace HW
open PySem PySem.Spec PyProof.Rows L2
theorem lim_eq : lim = sizeLine := by rw [sizeLine_eq]; rfl
/-- frozen data but for the top, which need not stay -/
def Kp (K : PySem.W.Frag) (F : Addr → Prop) (H : Hp) : PyData → V → Prop
  | .list ds, v => ∃ a xs, v = .ref a ∧ Rd H a (.lst xs) ∧ FzAll K F H ds xs
  | .dict kvs, v => ∃ a es, v = .ref a ∧ Rd H a (.dK es) ∧ FzKv K F H kvs es
  | d, v => Fz K F H d v
/-- a new value, with what is new of it -/
structure Made (K : PySem.W.Frag) (F : Addr → Prop) (H : Hp) (z : OD) (v : V) (H' : Hp) (F' : Addr → Prop) (Sv : List Addr) : Prop where
  ow : Ow K F' H' z v Sv
  ext : ∀ b o, H b = some o → H' b = some o
  fm : ∀ b, F b → F' b
  fn : ∀ b, F' b → F b ∨ (H b = none ∧ H' b ≠ none)
  sn : ∀ b ∈ Sv, H b = none
  nd : Sv.Nodup
  ap : ∀ b ∈ Sv, ¬ F' b
section
variable {K : PySem.W.Frag} {F F' : Addr → Prop} {H H' : Hp} {e e' : Env} {σ : L2.St} {os : List OD} {vs : List V} {S S' T A A' Sv : List Addr} {q : Bool} {z : OD} {v : V} {d : PyData}
theorem Kp.of : ∀ {d : PyData} {v : V}, Fz K F H d v → Kp K F H d v
  | .none, _, h => h
  | .bool _, _, h => h
  | .int _, _, h => h
  | .str _, _, h => h
  | .tuple _, _, h => h
  | .list ds, _, ⟨a, xs, e, _, h1, h2⟩ => ⟨a, xs, e, h1, h2⟩
  | .dict ds, _, ⟨a, xs, e, _, h1, h2⟩ => ⟨a, xs, e, h1, h2⟩
theorem Made.fz (h : Fz K F H d v) : Made K F H (.fz d) v H F [] :=
  ⟨⟨h, rfl⟩, fun _ _ q => q, fun _ q => q, fun _ q => .inl q, fun _ q => (nomatch q), List.nodup_nil, fun _ q => (nomatch q)⟩
/-- a new tuple -/
theorem Made.tup {ds : List PyData} {xs : List V} {p : Addr} (np : H p = none) (h : FzAll K F H ds xs) : Made K F H (.fz (.tuple ds)) (.ref p) (upd H p (.tup xs)) (fun b => F b ∨ b = p) [] :=
  ⟨⟨⟨p, xs, rfl, .inl ⟨.inr rfl, .inl upd_same⟩, FzAll.mono (fun _ q => .inl q) (fun b o _ q => by rw [upd_ne (ne_of_none q np)]; exact q) ds xs h⟩, rfl⟩,
    fun b o q => by rw [upd_ne (ne_of_none q np)]; exact q, fun _ q => .inl q, fun b q => q.imp id fun q => by subst q; exact ⟨np, by rw [upd_same]; exact fun z => nomatch z⟩, fun _ q => (nomatch q), List.nodup_nil, fun _ q => (nomatch q)⟩
theorem OwAll.fzs : ∀ {ds : List PyData} {xs : List V}, FzAll K F H ds xs → OwAll K F H (ds.map .fz) xs []
  | [], _, h => ⟨h, rfl⟩
  | d :: ds, _, ⟨x, r, e, h1, h2⟩ => ⟨x, r, [], [], e, ⟨h1, rfl⟩, OwAll.fzs h2, rfl⟩
theorem FzAll.of_fzs : ∀ {ds : List PyData} {xs : List V} {S : List Addr}, OwAll K F H (ds.map .fz) xs S → FzAll K F H ds xs ∧ S = []
  | [], _, _, h => h
  | d :: ds, _, _, ⟨x, r, S1, S2, e, ⟨h1, e1⟩, h2, e2⟩ => by
    obtain ⟨h3, e3⟩ := FzAll.of_fzs h2
    subst e1 e3 e2
    exact ⟨⟨x, r, e, h1, h3⟩, rfl⟩
/-- a new list of frozen items -/
theorem Made.lst {ds : List PyData} {xs : List V} {p : Addr} (np : H p = none) (hp : ¬ F p) (h : FzAll K F H ds xs) : Made K F H (fzs ds) (.ref p) (upd H p (.lst xs)) F [p] :=
  ⟨⟨p, xs, [], rfl, upd_same, OwAll.fzs (FzAll.mono (fun _ q => q) (fun b o _ q => by rw [upd_ne (ne_of_none q np)]; exact q) ds xs h), rfl⟩,
    fun b o q => by rw [upd_ne (ne_of_none q np)]; exact q, fun _ q => q, fun b q => .inl q, fun b q => by rw [List.mem_singleton.mp q]; exact np, by simp, fun b q => by rw [List.mem_singleton.mp q]; exact hp⟩
theorem Rel.made (r : Rel K F H e σ os vs S T) (m : Made K F H z v H' F' Sv) : Rel K F' H' e σ os vs S T ∧ Top K F' H' z v S Sv T ∧ Step true H F (S ++ T) H' F' (S ++ (Sv ++ T)) := by
  obtain ⟨r1, s1⟩ := r.grow m.ext m.fm m.fn
  have tS : ∀ b ∈ S ++ T, H b ≠ none := fun b hb => (List.mem_append.mp hb).elim (OwS.trk r.sl b) (OwAll.trk r.tm b)
  have dis : ∀ b ∈ Sv, b ∉ S ++ T := fun b hb z => tS b z (m.sn b hb)
  refine ⟨r1, ⟨m.ow, ?_, m.ap⟩, s1.keep, s1.trk, s1.fm, s1.fn, fun b hb => ?_⟩
  · have p1 : (Sv ++ (S ++ T)).Nodup := List.nodup_append.mpr ⟨m.nd, r.nd, fun a ha b hb e => dis a ha (e ▸ hb)⟩
    refine (List.Perm.nodup_iff ?_).mp p1
    rw [← List.append_assoc, ← List.append_assoc]
    exact List.Perm.append_right _ List.perm_append_comm
  · rcases List.mem_append.mp hb with hb | hb
    · exact .inl (List.mem_append_left _ hb)
    · rcases List.mem_append.mp hb with hb | hb
      · exact .inr (m.sn b hb)
      · exact .inl (List.mem_append_right _ hb)
theorem FzAll.append : ∀ {ds es : List PyData} {xs ys : List V}, FzAll K F H ds xs → FzAll K F H es ys → FzAll K F H (ds ++ es) (xs ++ ys)
  | [], _, _, _, h, g => by cases h; exact g
  | d :: ds, es, _, ys, ⟨x, r, e, h1, h2⟩, g => by
    subst e
    exact ⟨x, r ++ ys, rfl, h1, FzAll.append h2 g⟩
theorem FzAll.rep {ds : List PyData} {xs : List V} (h : FzAll K F H ds xs) : ∀ k : Nat, FzAll K F H (List.replicate k ds).flatten (List.replicate k xs).flatten
  | 0 => rfl
  | k + 1 => by
    rw [List.replicate_succ, List.replicate_succ, List.flatten_cons, List.flatten_cons]
    exact h.append (FzAll.rep h k)
theorem FzAll.get : ∀ {ds : List PyData} {xs : List V} {i : Nat} {d : PyData}, FzAll K F H ds xs → ds[i]? = some d → ∃ x, xs[i]? = some x ∧ Fz K F H d x
  | [], _, i, d, h, g => by simp at g
  | d :: ds, _, 0, d', ⟨x, r, e, h1, h2⟩, g => by
    subst e
    simp at g
    subst g
    exact ⟨x, rfl, h1⟩
  | d :: ds, _, i + 1, d', ⟨x, r, e, h1, h2⟩, g => by
    subst e
    obtain ⟨y, g1, g2⟩ := FzAll.get (i := i) h2 (by simpa using g)
    exact ⟨y, by simpa using g1, g2⟩
theorem FzAll.take : ∀ {ds : List PyData} {xs : List V} (n : Nat), FzAll K F H ds xs → FzAll K F H (ds.take n) (xs.take n)
  | _, _, 0, _ => rfl
  | [], _, n + 1, h => by cases h; rfl
  | d :: ds, _, n + 1, ⟨x, r, e, h1, h2⟩ => by
    subst e
    exact ⟨x, r.take n, rfl, h1, FzAll.take n h2⟩
theorem FzAll.drop : ∀ {ds : List PyData} {xs : List V} (n : Nat), FzAll K F H ds xs → FzAll K F H (ds.drop n) (xs.drop n)
  | _, _, 0, h => h
  | [], _, n + 1, h => by cases h; rfl
  | d :: ds, _, n + 1, ⟨x, r, e, h1, h2⟩ => by
    subst e
    exact FzAll.drop n h2
theorem FzAll.reverse : ∀ {ds : List PyData} {xs : List V}, FzAll K F H ds xs → FzAll K F H ds.reverse xs.reverse
  | [], _, h => by cases h; rfl
  | d :: ds, _, ⟨x, r, e, h1, h2⟩ => by
    subst e
    rw [List.reverse_cons, List.reverse_cons]
    exact (FzAll.reverse h2).append ⟨x, [], rfl, h1, rfl⟩
theorem FzAll.nil_iff {ds : List PyData} {xs : List V} (h : FzAll K F H ds xs) : xs = [] ↔ ds = [] := by
  cases ds with
  | nil => cases h; exact ⟨fun _ => rfl, fun _ => rfl⟩
  | cons d ds =>
    obtain ⟨x, r, rfl, _⟩ := h
    exact ⟨fun z => (nomatch z), fun z => (nomatch z)⟩
end
/-! ## lists of any standing: + and * -/
section
variable {X : Cx}
theorem rd_lst {pins : List (Addr × Obj)} {σ : L2.St} {H : Hp} {s : Shared} {l : Addr} {xs : List V} (I : Inv X pins σ H s) (h : Rd H l (.lst xs)) :
    ∃ (its : List Value) (n : Nat), Vals xs its ∧ xs.length = its.length ∧ xs.length ≤ sizeLine ∧ s.heap.get? l = some { cls := .type "list", data := .seq its.toArray n } := by
  obtain ⟨z, its, n, r, e⟩ := h.ok I.hok
  exact ⟨its, n, r, r.length, z, e⟩
def rCatL : R2 := fun x y H Q => ∃ l b xs zs, x = .ref l ∧ y = .ref b ∧ Rd H l (.lst xs) ∧ Rd H b (.lst zs) ∧ xs.length + zs.length ≤ sizeLine ∧ ∀ p, H p = none → Q (.ref p) (upd H p (.lst (xs ++ zs)))
theorem op_catL : OpR X (binaryOp .Add) rCatL := by
  intro pins s σ H x y v u Q I rx ry h
  obtain ⟨l, b, xs, zs, rfl, rfl, hH, hB, hz, q⟩ := h
  cases rx
  cases ry
  obtain ⟨its, n, r, hl, _, e⟩ := rd_lst I hH
  obtain ⟨its2, n2, r2, hl2, _, e2⟩ := rd_lst I hB
  refine PySem.P.add_list e e2 ?_ (by rw [List.size_toArray, List.size_toArray]; omega)
  have ea : its.toArray ++ its2.toArray = (its ++ its2).toArray := by simp
  rw [ea]
  exact ⟨.ref _, _, I.lnew (t' := s.toks) (r.append r2) (by rw [List.length_append]; omega), rfl, q _ I.fresh⟩
def rRepL : R2 := fun x y H Q => ∃ l k xs, x = .ref l ∧ y = .int k ∧ Rd H l (.lst xs) ∧ -(2 ^ 63) ≤ k ∧ k < 2 ^ 63 ∧ xs.length * k.toNat ≤ sizeLine ∧
  ∀ p, H p = none → Q (.ref p) (upd H p (.lst (List.replicate k.toNat xs).flatten))
theorem op_repL : OpR X (binaryOp .Mult) rRepL := by
  intro pins s σ H x y v u Q I rx ry h
  obtain ⟨l, k, xs, rfl, rfl, hH, h1, h2, hz, q⟩ := h
  cases rx
  obtain ⟨t, rfl⟩ := ry
  obtain ⟨its, n, r, hl, z, e⟩ := rd_lst I hH
  have hlen : its.toArray.size * k.toNat ≤ sizeLine := by rw [List.size_toArray, ← hl]; exact hz
  have cap : ¬ its.toArray.size * k.toNat > (2 ^ 63 - 1) / 8 := by
    have : (sizeLine : Nat) ≤ (2 ^ 63 - 1) / 8 := by decide
    omega
  have fit : ¬ (!Builtin.List.listFitsIndex k) = true := by
    rw [fitsIndex_both h1 h2]
    exact Bool.false_ne_true
  have long : ¬ Builtin.List.listTooLong (its.toArray.size * k.toNat) = true := by
    rw [notLongL hlen]
    exact Bool.false_ne_true
  have made : List.foldl (fun x1 x2 => x1 ++ x2) #[] (List.replicate (if its.toArray.isEmpty = true then 0 else k.toNat) its.toArray) = (List.replicate k.toNat its).flatten.toArray := by
    have f0 : ∀ m : Nat, List.foldl (fun x1 x2 => x1 ++ x2) #[] (List.replicate m its.toArray) = (List.replicate m its).flatten.toArray := fun m => by
      have := foldl_rep its m []
      rw [List.nil_append] at this
      exact this
    rw [f0]
    cases its with
    | nil => simp
    | cons a r' => rw [if_neg (by simp)]
  refine wpAny_binaryOp_repeat_ref (T := "list") (U := "int") (by decide) ⟨_, e, rfl⟩ (fun s' => typeIs_int s' k t) noFill_list_mul F.fills_int_mul F.slot_int_rmul repeat_list F.slot_int_index.lookup
    (call_meets F.slot_int_rmul (typeIs_int s k t) F.entry_int_rmul (F.args_int_rmul_2 _ _) (int___rmul___int_list k t l its.toArray n)
      ⟨e, rfl, ⟨_, e, rfl⟩, call_meets F.slot_list_mul ⟨_, e, rfl⟩ F.entry_list_mul (F.args_list_mul_2 _ _) (AutoListH.list___mul___list_int_3 l its.toArray n k t fit cap long) ⟨e, ?_⟩⟩)
  rw [made]
  exact ⟨.ref _, _, I.lnew (t' := s.toks) (r.rep k.toNat) (by rw [PyProof.Rows.lm_len_rep_flat, Nat.mul_comm]; exact hz), rfl, q _ I.fresh⟩

/-! ## binary operators -/
def bop : BOp → Operator
  | .add => .Add | .sub => .Sub | .mul => .Mult | .fdiv => .FloorDiv | .mod => .Mod | .shl => .LShift | .shr => .RShift | .pow => .Pow | .band => .BitAnd | .bor => .BitOr | .bxor => .BitXor
def rBin (K : PySem.W.Frag) (o : BOp) : R2 := fun x y H Q => ∃ (F : Addr → Prop) (d e : PyData) (z : OD), Kp K F H d x ∧ Kp K F H e y ∧ (∀ b, F b → H b ≠ none) ∧ binD o d e = some z ∧ ∀ v H' F' Sv, Made K F H z v H' F' Sv → Q v H'
theorem int_bin (o : BOp) {i j k : Int} (h : binI o i j = some k) : ∀ (pins : List (Addr × Obj)) (s : Shared) (σ : L2.St) (H : Hp) (v u : Value) (Q : VK), Inv X pins σ H s → RelV (.int i) v → RelV (.int j) u → Q (.int k) H →
    wpAny (model X.prog X.w) X.A (binaryOp (bop o) v u) (EP X pins σ Q) X.xe s := by
  intro pins s σ H v u Q I rx ry q
  cases o with
  | add => cases h; exact op_add pins s σ H _ _ v u Q I rx ry ⟨i, j, rfl, rfl, q⟩
  | sub => cases h; exact op_sub pins s σ H _ _ v u Q I rx ry ⟨i, j, rfl, rfl, q⟩
  | mul =>
    simp only [binI] at h
    split at h
    · rename_i c
      cases h
      unfold mulOk at c
      simp only [Bool.or_eq_true, Bool.and_eq_true, decide_eq_true_eq] at c
      rcases c with c | c
      · exact op_mul pins s σ H _ _ v u Q I rx ry ⟨i, j, rfl, rfl, c, q⟩
      · exact op_mulW pins s σ H _ _ v u Q I rx ry ⟨i, j, rfl, rfl, c, q⟩
    · cases h
  | fdiv =>
    simp only [binI] at h
    split at h
    · rename_i c
      cases h
      exact op_fdivW pins s σ H _ _ v u Q I rx ry ⟨i, j, rfl, rfl, c, q⟩
    · cases h
  | mod =>
    simp only [binI] at h
    split at h
    · rename_i c
      cases h
      exact op_mod pins s σ H _ _ v u Q I rx ry ⟨i, j, rfl, rfl, c, q⟩
    · cases h
  | shl =>
    simp only [binI] at h
    split at h
    · rename_i c
      cases h
      unfold powOk at c
      simp only [Bool.and_eq_true, decide_eq_true_eq] at c
      exact op_shl pins s σ H _ _ v u Q I rx ry ⟨i, j, rfl, rfl, ⟨c.1.1, c.1.2, c.2⟩, q⟩
    · cases h
  | shr =>
    simp only [binI] at h
    split at h
    · rename_i c
      cases h
      exact op_shr pins s σ H _ _ v u Q I rx ry ⟨i, j, rfl, rfl, c, q⟩
    · cases h
  | pow =>
    simp only [binI] at h
    split at h
    · rename_i c
      cases h
      unfold powOk at c
      simp only [Bool.and_eq_true, decide_eq_true_eq] at c
      exact op_pow pins s σ H _ _ v u Q I rx ry ⟨i, j, rfl, rfl, ⟨c.1.1, c.1.2, c.2⟩, q⟩
    · cases h
  | band => cases h; exact op_and pins s σ H _ _ v u Q I rx ry ⟨i, j, rfl, rfl, q⟩
  | bor => cases h; exact op_or pins s σ H _ _ v u Q I rx ry ⟨i, j, rfl, rfl, q⟩
  | bxor => cases h; exact op_xor pins s σ H _ _ v u Q I rx ry ⟨i, j, rfl, rfl, q⟩
theorem fz_tup {K : PySem.W.Frag} {F : Addr → Prop} {H : Hp} {ds : List PyData} {v : V} (h : Fz K F H (.tuple ds) v) : ∃ a xs, v = .ref a ∧ SqT K H a xs ∧ FzAll K F H ds xs := by
  obtain ⟨a, xs, e, h1, h2⟩ := h
  exact ⟨a, xs, e, h1.imp (fun z => z.2) id, h2⟩
theorem op_bin (o : BOp) : OpR X (binaryOp (bop o)) (rBin X.K o) := by
  intro pins s σ H x y v u Q I rx ry h
  obtain ⟨F, d, e, z, hd, he, hF, hz, q⟩ := h
  have fr : ∀ p, H p = none → ¬ F p := fun p np hp => hF p hp np
  unfold binD at hz
  split at hz
  · -- ints
    obtain rfl : x = _ := hd
    obtain rfl : y = _ := he
    obtain ⟨k, e1, rfl⟩ := Option.map_eq_some_iff.mp hz
    exact int_bin o e1 pins s σ H v u Q I rx ry (q _ _ _ _ (Made.fz rfl))
  · -- tuple + tuple
    split at hz
    · rename_i xs ys c
      obtain ⟨rfl, hl⟩ := c
      cases hz
      obtain ⟨a, us, rfl, hs, hu⟩ := fz_tup hd
      obtain ⟨b, ws, rfl, hs', hw⟩ := fz_tup he
      have l1 := hu.length
      have l2 := hw.length
      refine op_catA pins s σ H _ _ v u Q I rx ry ⟨a, b, us, ws, rfl, rfl, hs, hs', by rw [l1, l2, ← lim_eq]; exact hl, fun z => ?_, fun _ z => ?_, fun _ _ p np => q _ _ _ _ (Made.tup np (hu.append hw))⟩
      · rw [hu.nil_iff.mp z] at q
        exact q _ _ _ _ (Made.fz he)
      · rw [hw.nil_iff.mp z, List.append_nil] at q
        exact q _ _ _ _ (Made.fz hd)
    · cases hz
  · -- list + list
    split at hz
    · rename_i xs ys c
      obtain ⟨rfl, hl⟩ := c
      cases hz
      obtain ⟨a, us, rfl, hs, hu⟩ := hd
      obtain ⟨b, ws, rfl, hs', hw⟩ := he
      have l1 := hu.length
      have l2 := hw.length
      exact op_catL pins s σ H _ _ v u Q I rx ry ⟨a, b, us, ws, rfl, rfl, hs, hs', by rw [l1, l2, ← lim_eq]; exact hl, fun p np => q _ _ _ _ (Made.lst np (fr p np) (hu.append hw))⟩
    · cases hz
  · -- text + text
    split at hz
    · rename_i xs ys c
      obtain ⟨rfl, hl⟩ := c
      cases hz
      obtain rfl : x = _ := hd
      obtain rfl : y = _ := he
      exact op_add_str pins s σ H _ _ v u Q I rx ry ⟨_, _, rfl, rfl, by rw [← lim_eq]; exact hl, q _ _ _ _ (Made.fz rfl)⟩
    · cases hz
  · -- list * int
    split at hz
    · rename_i xs k c
      obtain ⟨rfl, h1, h2, hl⟩ := c
      cases hz
      obtain ⟨a, us, rfl, hs, hu⟩ := hd
      obtain rfl : y = _ := he
      have l1 := hu.length
      exact op_repL pins s σ H _ _ v u Q I rx ry ⟨a, k, us, rfl, rfl, hs, h1, h2, by rw [l1, ← lim_eq]; exact hl, fun p np => q _ _ _ _ (Made.lst np (fr p np) (hu.rep _))⟩
    · cases hz
  · -- tuple * int
    split at hz
    · rename_i xs k c
      obtain ⟨rfl, h0, h1, h2, hl⟩ := c
      cases hz
      obtain ⟨a, us, rfl, hs, hu⟩ := fz_tup hd
      obtain rfl : y = _ := he
      have l1 := hu.length
      exact op_repT pins s σ H _ _ v u Q I rx ry ⟨a, k, us, rfl, rfl, hs, fun z => h0 (hu.nil_iff.mp z), h1, h2, by rw [l1]; exact hl, fun p np => q _ _ _ _ (Made.tup np (hu.rep _))⟩
    · cases hz
  · cases hz
end
end HW
end

section
set_option Elab.async false
set_option linter.all false
set_option maxRecDepth 100000
set_option maxHeartbeats 1000000
/-! # Comparisons, truth, items, cuts, by the data that they are given -/
namespace HW
open PySem PySem.Spec PyProof.Rows L2
section
variable {K : PySem.W.Frag} {F : Addr → Prop} {H : Hp}
mutual
theorem Fz.dp : ∀ (d : PyData) (v : V), Fz K F H d v → d.canLay0 = true → Dp K H v d
  | .none, _, h, _ => by cases h; exact .non
  | .bool b, _, h, _ => by cases h; exact .bl b
  | .int i, _, h, _ => by cases h; exact .int i
  | .str x, _, h, _ => by cases h; exact .str x
  | .list ds, _, ⟨a, xs, e, _, h1, h2⟩, c => by
    subst e
    exact .lst (.inl h1) (FzAll.dp ds xs h2 c)
  | .tuple ds, _, ⟨a, xs, e, h1, h2⟩, c => by
    subst e
    exact .tup (h1.imp (fun z => z.2) id) (FzAll.dp ds xs h2 c)
  | .dict _, _, _, c => by cases c
theorem FzAll.dp : ∀ (ds : List PyData) (xs : List V), FzAll K F H ds xs → PyData.canLayAll0 ds = true → DpAll K H xs ds
  | [], _, h, _ => by cases h; exact .nil
  | d :: ds, _, ⟨x, r, e, h1, h2⟩, c => by
    subst e
    have c' := Bool.and_eq_true_iff.mp c
    exact .cons (Fz.dp d x h1 c'.1) (FzAll.dp ds r h2 c'.2)
end
theorem flat_v {d : PyData} {v : V} (h : Fz K F H d v) (f : flat d = true) : flatV v = true := by
  cases d with
  | none => cases h; rfl
  | bool b => cases h; rfl
  | int i => cases h; rfl
  | str x => cases h; rfl
  | _ => cases f
theorem eqv_v {d e : PyData} {v u : V} (h : Fz K F H d v) (g : Fz K F H e u) (f : flat d = true) (f' : flat e = true) : eqV v u = PyData.eqv d e := by
  cases d with
  | none => cases h; cases e with
    | none => cases g; rfl
    | bool b => cases g; rfl
    | int i => cases g; rfl
    | str x => cases g; rfl
    | _ => cases f'
  | bool b => cases h; cases e with
    | none => cases g; rfl
    | bool b => cases g; rfl
    | int i => cases g; rfl
    | str x => cases g; rfl
    | _ => cases f'
  | int i => cases h; cases e with
    | none => cases g; rfl
    | bool b => cases g; rfl
    | int i => cases g; rfl
    | str x => cases g; rfl
    | _ => cases f'
  | str x => cases h; cases e with
    | none => cases g; rfl
    | bool b => cases g; rfl
    | int i => cases g; rfl
    | str x => cases g; rfl
    | _ => cases f'
  | _ => cases f
theorem flat_vs : ∀ {ds : List PyData} {xs : List V}, FzAll K F H ds xs → ds.all flat = true → xs.all flatV = true
  | [], _, h, _ => by cases h; rfl
  | d :: ds, _, ⟨x, r, e, h1, h2⟩, c => by
    subst e
    rw [List.all_cons, Bool.and_eq_true] at c
    rw [List.all_cons, Bool.and_eq_true]
    exact ⟨flat_v h1 c.1, flat_vs h2 c.2⟩
theorem in_v {d : PyData} {v : V} (h : Fz K F H d v) (f : flat d = true) : ∀ {ds : List PyData} {xs : List V}, FzAll K F H ds xs → ds.all flat = true → inV v xs = ds.any fun z => PyData.eqv z d
  | [], _, g, _ => by cases g; rfl
  | e :: ds, _, ⟨x, r, q, h1, h2⟩, c => by
    subst q
    rw [List.all_cons, Bool.and_eq_true] at c
    have ih := in_v h f h2 c.2
    unfold inV at ih ⊢
    rw [List.any_cons, List.any_cons, ih, eqv_v h1 h c.1 f]
theorem key_kV {d : PyData} {v : V} (h : Fz K F H d v) (f : keyOk d = true) : ∃ y, keyR d y ∧ v = kV y := by
  cases d with
  | int i => cases h; exact ⟨.inl i, rfl, rfl⟩
  | str x => cases h; exact ⟨.inr x, rfl, rfl⟩
  | _ => cases f
theorem keyR_eqv {d e : PyData} {y z : Key} (h : keyR d y) (g : keyR e z) : PyData.eqv d e = decide (y = z) := by
  cases d with
  | int i =>
    cases h
    cases e with
    | int j => cases g; simp [PyData.eqv, key_ll, Bool.beq_eq_decide_eq]
    | str x => cases g; simp [PyData.eqv]
    | _ => exact g.elim
  | str i =>
    cases h
    cases e with
    | int j => cases g; simp [PyData.eqv]
    | str x => cases g; simp [PyData.eqv, key_rr, Bool.beq_eq_decide_eq]
    | _ => exact g.elim
  | _ => exact h.elim
theorem keysR_has {k : PyData} {y : Key} (h : keyR k y) : ∀ {ks : List PyData} {es : List (Key × V)}, keysR ks (es.map (·.1)) → hasKey k ks = (valV es y).isSome
  | [], es, g => by
    cases es with
    | nil => rfl
    | cons p r => cases g
  | z :: ks, es, g => by
    cases es with
    | nil => obtain ⟨_, _, e, _⟩ := g; cases e
    | cons p r =>
      obtain ⟨y', r', e, g1, g2⟩ := g
      rw [List.map_cons] at e
      injection e with e1 e2
      subst e1 e2
      have ih := keysR_has h g2
      unfold hasKey at ih ⊢
      rw [List.any_cons, keyR_eqv g1 h, ih]
      by_cases c : p.1 = y
      · rw [valV_pos c, decide_eq_true c]; rfl
      · rw [valV_neg c, decide_eq_false c]; rfl
theorem keysR_look {α : Type} {k : PyData} {y : Key} (h : keyR k y) : ∀ {ks : List PyData} {es : List (Key × V)} {os : List α} {o : α}, keysR ks (es.map (·.1)) → look ks os k = some o → ∃ (i : Nat) (p : Key × V), es[i]? = some p ∧ os[i]? = some o ∧ valV es y = some p.2
  | [], es, os, o, g, l => by cases os <;> cases l
  | z :: ks, es, [], o, g, l => by cases l
  | z :: ks, es, q :: os, o, g, l => by
    cases es with
    | nil => obtain ⟨_, _, e, _⟩ := g; cases e
    | cons p r =>
      obtain ⟨y', r', e, g1, g2⟩ := g
      rw [List.map_cons] at e
      injection e with e1 e2
      subst e1 e2
      unfold look at l
      rw [keyR_eqv g1 h] at l
      by_cases c : p.1 = y
      · rw [decide_eq_true c, if_pos rfl] at l
        cases l
        exact ⟨0, p, rfl, rfl, valV_pos c⟩
      · rw [decide_eq_false c, if_neg Bool.false_ne_true] at l
        obtain ⟨i, p', e1, e2, e3⟩ := keysR_look h g2 l
        exact ⟨i + 1, p', by simpa using e1, by simpa using e2, by rw [valV_neg c]; exact e3⟩
theorem place_ixN {n : Nat} {i : Int} : place n i = ixN n i := by
  unfold place ixN
  by_cases h : 0 ≤ i
  · rw [if_pos h, if_pos h]
  · rw [if_neg h, if_neg h]
    by_cases h' : 0 ≤ (n : Int) + i
    · rw [if_pos h', if_pos (by omega), Int.add_comm]
    · rw [if_neg h', if_neg (by omega)]
theorem item_atI {α : Type} {xs : List α} {i : Int} : item xs i = atI xs i := by
  unfold item atI
  rw [place_ixN]
end
def cop : COp → CmpOp
  | .eq => .Eq | .ne => .NotEq | .lt => .Lt | .le => .LtE | .gt => .Gt | .ge => .GtE | .is => .Is | .isn => .IsNot | .inn => .In | .nin => .NotIn
def rCmp (K : PySem.W.Frag) (o : COp) : R2 := fun x y H Q => ∃ (F : Addr → Prop) (d e : PyData) (k : Bool), Fz K F H d x ∧ Fz K F H e y ∧ cmpD o d e = some k ∧ Q (.bl k) H
section
variable {X : Cx}
theorem eq_any (hu : X.A.units + 65 < cLine) {pins : List (Addr × Obj)} {s : Shared} {σ : L2.St} {H : Hp} {x y : V} {v u : Value} {Q : VK} {F : Addr → Prop} {d e : PyData} {k : Bool} (I : Inv X pins σ H s) (rx : RelV x v) (ry : RelV y u)
    (hd : Fz X.K F H d x) (he : Fz X.K F H e y) (hk : eqD d e = some k) : (Q (.bl k) H → wpAny (model X.prog X.w) X.A (compareOp .Eq v u) (EP X pins σ Q) X.xe s) ∧ (Q (.bl (!k)) H → wpAny (model X.prog X.w) X.A (compareOp .NotEq v u) (EP X pins σ Q) X.xe s) := by
  unfold eqD at hk
  split at hk
  · cases hk
    obtain rfl : x = _ := hd
    obtain rfl : y = _ := he
    refine ⟨fun q => op_eq pins s σ H _ _ v u Q I rx ry ⟨rfl, ?_⟩, fun q => op_ne pins s σ H _ _ v u Q I rx ry ⟨rfl, ?_⟩⟩
    · rw [dec_int, Bool.beq_eq_decide_eq]; exact q
    · rw [dec_int, Bool.beq_eq_decide_eq]; exact q
  · cases hk
    obtain rfl : x = _ := hd
    obtain rfl : y = _ := he
    refine ⟨fun q => op_eq pins s σ H _ _ v u Q I rx ry ⟨rfl, ?_⟩, fun q => op_ne pins s σ H _ _ v u Q I rx ry ⟨rfl, ?_⟩⟩
    · rw [dec_str, Bool.beq_eq_decide_eq]; exact q
    · rw [dec_str, Bool.beq_eq_decide_eq]; exact q
  · split at hk
    · rename_i c
      cases hk
      rw [Bool.and_eq_true] at c
      have h1 := Fz.dp d x hd (SeqAt.canLay_of_shaped c.1)
      have h2 := Fz.dp e y he (SeqAt.canLay_of_shaped c.2)
      exact ⟨fun q => op_eqD (by omega) pins s σ H _ _ v u Q I rx ry ⟨d, e, h1, h2, c.1, c.2, q⟩, fun q => op_neD (by omega) pins s σ H _ _ v u Q I rx ry ⟨d, e, h1, h2, c.1, c.2, q⟩⟩
    · cases hk
theorem in_any (hu : X.A.units + 65 < cLine) {pins : List (Addr × Obj)} {s : Shared} {σ : L2.St} {H : Hp} {x y : V} {v u : Value} {Q : VK} {F : Addr → Prop} {d e : PyData} {k : Bool} (I : Inv X pins σ H s) (rx : RelV x v) (ry : RelV y u)
    (hd : Fz X.K F H d x) (he : Fz X.K F H e y) (hk : inD d e = some k) : (Q (.bl k) H → wpAny (model X.prog X.w) X.A (compareOp .In v u) (EP X pins σ Q) X.xe s) ∧ (Q (.bl (!k)) H → wpAny (model X.prog X.w) X.A (compareOp .NotIn v u) (EP X pins σ Q) X.xe s) := by
  cases e with
  | list ds =>
    simp only [inD] at hk
    split at hk
    · rename_i c
      cases hk
      rw [Bool.and_eq_true] at c
      obtain ⟨a, xs, rfl, _, hs, hx⟩ := he
      have ev := in_v hd c.2 hx c.1
      refine ⟨fun q => op_in_seq pins s σ H _ _ v u Q I rx ry ⟨a, xs, rfl, .inl (.inl hs), flat_v hd c.2, flat_vs hx c.1, ?_⟩, fun q => op_notIn_seq pins s σ H _ _ v u Q I rx ry ⟨a, xs, rfl, .inl (.inl hs), flat_v hd c.2, flat_vs hx c.1, ?_⟩⟩
      · rw [if_neg Bool.false_ne_true, ev]; exact q
      · rw [if_pos rfl, ev]; exact q
    · split at hk
      · rename_i c
        cases hk
        rw [Bool.and_eq_true] at c
        have h1 := Fz.dp d x hd (SeqAt.canLay_of_shaped c.1)
        have h2 := Fz.dp (.list ds) y he (SeqAt.canLay_of_shaped c.2)
        exact ⟨fun q => op_inD hu pins s σ H _ _ v u Q I rx ry ⟨d, ds, h1, h2, c.1, c.2, q⟩, fun q => op_notInD hu pins s σ H _ _ v u Q I rx ry ⟨d, ds, h1, h2, c.1, c.2, q⟩⟩
      · cases hk
  | tuple ds =>
    simp only [inD] at hk
    split at hk
    · rename_i c
      cases hk
      rw [Bool.and_eq_true] at c
      obtain ⟨a, xs, rfl, hs, hx⟩ := fz_tup he
      have ev := in_v hd c.2 hx c.1
      refine ⟨fun q => op_in_seq pins s σ H _ _ v u Q I rx ry ⟨a, xs, rfl, .inr hs, flat_v hd c.2, flat_vs hx c.1, ?_⟩, fun q => op_notIn_seq pins s σ H _ _ v u Q I rx ry ⟨a, xs, rfl, .inr hs, flat_v hd c.2, flat_vs hx c.1, ?_⟩⟩
      · rw [if_neg Bool.false_ne_true, ev]; exact q
      · rw [if_pos rfl, ev]; exact q
    · cases hk
  | dict kvs =>
    simp only [inD] at hk
    split at hk
    · rename_i c
      cases hk
      obtain ⟨a, es, rfl, _, hs, hx⟩ := he
      obtain ⟨y, hy, rfl⟩ := key_kV hd c
      have g : DGet H a (kV y) (valV es y) := .inl ⟨es, y, hs, rfl, rfl⟩
      cases ry
      rw [keysR_has hy (FzKv.keys hx).1]
      exact ⟨fun q => d_in (by omega) I g rx fun s' I' => ⟨.bl _, H, I', rfl, q⟩, fun q => d_notIn (by omega) I g rx fun s' I' => ⟨.bl _, H, I', rfl, q⟩⟩
    · cases hk
  | str z =>
    cases d with
    | str w =>
      cases hk
      obtain rfl : x = _ := hd
      obtain rfl : y = _ := he
      exact ⟨fun q => op_in_str pins s σ H _ _ v u Q I rx ry ⟨w, z, rfl, rfl, q⟩, fun q => op_notin_str pins s σ H _ _ v u Q I rx ry ⟨w, z, rfl, rfl, q⟩⟩
    | _ => cases hk
  | _ => cases hk
theorem fz_non {K : PySem.W.Frag} {F : Addr → Prop} {H : Hp} {d : PyData} {x : V} (h : Fz K F H d x) : decide (x = .non) = isNon d := by
  cases d with
  | none => cases h; rfl
  | bool b => cases h; rfl
  | int i => cases h; rfl
  | str x => cases h; rfl
  | list ds => obtain ⟨a, xs, rfl, _⟩ := h; rfl
  | tuple ds => obtain ⟨a, xs, rfl, _⟩ := h; rfl
  | dict ds => obtain ⟨a, xs, rfl, _⟩ := h; rfl
theorem is_any {pins : List (Addr × Obj)} {s : Shared} {σ : L2.St} {H : Hp} {x y : V} {v u : Value} {Q : VK} {F : Addr → Prop} {d e : PyData} {k : Bool} (I : Inv X pins σ H s) (rx : RelV x v) (ry : RelV y u)
    (hd : Fz X.K F H d x) (he : Fz X.K F H e y) (hk : isD d e = some k) : (Q (.bl k) H → wpAny (model X.prog X.w) X.A (compareOp .Is v u) (EP X pins σ Q) X.xe s) ∧ (Q (.bl (!k)) H → wpAny (model X.prog X.w) X.A (compareOp .IsNot v u) (EP X pins σ Q) X.xe s) := by
  cases e with
  | none =>
    cases hk
    obtain rfl : y = _ := he
    have ev := fz_non hd
    refine ⟨fun q => op_isN pins s σ H _ _ v u Q I rx ry ⟨rfl, ?_⟩, fun q => op_notN pins s σ H _ _ v u Q I rx ry ⟨rfl, ?_⟩⟩
    · rw [ev]; exact q
    · rw [ev]; exact q
  | bool b =>
    cases d with
    | bool a =>
      cases hk
      obtain rfl : x = _ := hd
      obtain rfl : y = _ := he
      exact ⟨fun q => op_isBl pins s σ H _ _ v u Q I rx ry ⟨a, b, rfl, rfl, q⟩, fun q => op_notBl pins s σ H _ _ v u Q I rx ry ⟨a, b, rfl, rfl, q⟩⟩
    | _ => cases hk
  | _ => cases hk
theorem op_cmp (hu : X.A.units + 65 < cLine) (o : COp) : OpR X (compareOp (cop o)) (rCmp X.K o) := by
  intro pins s σ H x y v u Q I rx ry h
  obtain ⟨F, d, e, k, hd, he, hk, q⟩ := h
  cases o with
  | eq => exact (eq_any hu I rx ry hd he hk).1 q
  | ne =>
    obtain ⟨k', e1, rfl⟩ := Option.map_eq_some_iff.mp hk
    exact (eq_any hu I rx ry hd he e1).2 q
  | inn => exact (in_any hu I rx ry hd he hk).1 q
  | nin =>
    obtain ⟨k', e1, rfl⟩ := Option.map_eq_some_iff.mp hk
    exact (in_any hu I rx ry hd he e1).2 q
  | is => exact (is_any I rx ry hd he hk).1 q
  | isn =>
    obtain ⟨k', e1, rfl⟩ := Option.map_eq_some_iff.mp hk
    exact (is_any I rx ry hd he e1).2 q
  | lt =>
    unfold cmpD at hk
    simp only at hk
    split at hk
    · cases hk
      obtain rfl : x = _ := hd
      obtain rfl : y = _ := he
      exact op_lt pins s σ H _ _ v u Q I rx ry ⟨_, _, rfl, rfl, q⟩
    · cases hk
  | le =>
    unfold cmpD at hk
    simp only at hk
    split at hk
    · cases hk
      obtain rfl : x = _ := hd
      obtain rfl : y = _ := he
      exact op_le pins s σ H _ _ v u Q I rx ry ⟨_, _, rfl, rfl, q⟩
    · cases hk
  | gt =>
    unfold cmpD at hk
    simp only at hk
    split at hk
    · cases hk
      obtain rfl : x = _ := hd
      obtain rfl : y = _ := he
      exact op_gt pins s σ H _ _ v u Q I rx ry ⟨_, _, rfl, rfl, q⟩
    · cases hk
  | ge =>
    unfold cmpD at hk
    simp only at hk
    split at hk
    · cases hk
      obtain rfl : x = _ := hd
      obtain rfl : y = _ := he
      exact op_ge pins s σ H _ _ v u Q I rx ry ⟨_, _, rfl, rfl, q⟩
    · cases hk

/-! ## truth -/
theorem tru_v {K : PySem.W.Frag} {F : Addr → Prop} {H : Hp} {d : PyData} {x : V} {k : Bool} (h : Fz K F H d x) (hk : truD d = some k) : TruV K x H k := by
  cases d with
  | none => cases h; cases hk; rfl
  | bool b => cases h; cases hk; rfl
  | int i => cases h; cases hk; rfl
  | str y =>
    cases h
    simp only [truD] at hk
    split at hk
    · rename_i c
      cases hk
      refine ⟨by rw [← lim_eq]; exact c, ?_⟩
      by_cases z : y.length = 0
      · rw [z]; rfl
      · have z' : ((y.length : Int) != 0) = true := by simpa using z
        rw [z']
        simpa using z
    · cases hk
  | list ds =>
    obtain ⟨a, xs, rfl, _, hs, hx⟩ := h
    cases hk
    refine .inl ⟨xs, .inl hs, ?_⟩
    cases ds with
    | nil => cases hx; rfl
    | cons d ds => obtain ⟨x, r, rfl, _⟩ := hx; rfl
  | tuple ds =>
    obtain ⟨a, xs, rfl, hs, hx⟩ := fz_tup h
    cases hk
    refine .inr (.inl ⟨xs, hs, ?_⟩)
    cases ds with
    | nil => cases hx; rfl
    | cons d ds => obtain ⟨x, r, rfl, _⟩ := hx; rfl
  | dict kvs => cases hk
end
end HW
end

section
set_option Elab.async false
set_option linter.all false
set_option maxRecDepth 100000
set_option maxHeartbeats 1000000
/-! # Items, cuts, built-ins, by the data that they are given -/
namespace HW
open PySem PySem.Spec PyProof.Rows L2
section
variable {K : PySem.W.Frag} {F F' : Addr → Prop} {H H' : Hp}
theorem cutAt_eq (n d : Nat) (o : Option Int) : cutAt n d o = HT.sIx n d o := by cases o <;> rfl
theorem cut_eq (xs : List V) (lo hi : Option Int) : cut xs lo hi = cutV xs lo hi := by
  unfold cut cutV
  rw [cutAt_eq, cutAt_eq]
theorem FzAll.cut {ds : List PyData} {xs : List V} (h : FzAll K F H ds xs) (lo hi : Option Int) : FzAll K F H (HW.cut ds lo hi) (HW.cut xs lo hi) := by
  unfold HW.cut
  rw [h.length]
  exact (h.drop _).take _
theorem FzAll.item {ds : List PyData} {xs : List V} {i : Int} {d : PyData} (h : FzAll K F H ds xs) (e : item ds i = some d) : ∃ x, atI xs i = some x ∧ Fz K F H d x := by
  unfold HW.item at e
  obtain ⟨j, e1, e2⟩ := Option.bind_eq_some_iff.mp e
  obtain ⟨x, h1, h2⟩ := h.get e2
  refine ⟨x, ?_, h2⟩
  unfold atI
  rw [← place_ixN, h.length, e1]
  exact h1
theorem FzAll.ints : ∀ {ds : List PyData} {xs : List V} {ns : List Int}, FzAll K F H ds xs → intsOf ds = some ns → xs = ns.map V.int
  | [], _, _, h, e => by cases h; cases e; rfl
  | .int i :: ds, _, ns, ⟨x, r, e1, h1, h2⟩, e => by
    obtain ⟨ns', e2, rfl⟩ := Option.map_eq_some_iff.mp (show (intsOf ds).map (fun is => i :: is) = some ns from e)
    subst e1
    obtain rfl : x = _ := h1
    rw [List.map_cons, FzAll.ints h2 e2]
  | .none :: _, _, _, _, e => by cases e
  | .bool _ :: _, _, _, _, e => by cases e
  | .str _ :: _, _, _, _, e => by cases e
  | .list _ :: _, _, _, _, e => by cases e
  | .tuple _ :: _, _, _, _, e => by cases e
  | .dict _ :: _, _, _, _, e => by cases e
theorem FzAll.bools : ∀ {ds : List PyData} {xs : List V} {ns : List Bool}, FzAll K F H ds xs → boolsOf ds = some ns → xs = ns.map V.bl
  | [], _, _, h, e => by cases h; cases e; rfl
  | .bool i :: ds, _, ns, ⟨x, r, e1, h1, h2⟩, e => by
    obtain ⟨ns', e2, rfl⟩ := Option.map_eq_some_iff.mp (show (boolsOf ds).map (fun is => i :: is) = some ns from e)
    subst e1
    obtain rfl : x = _ := h1
    rw [List.map_cons, FzAll.bools h2 e2]
  | .none :: _, _, _, _, e => by cases e
  | .int _ :: _, _, _, _, e => by cases e
  | .str _ :: _, _, _, _, e => by cases e
  | .list _ :: _, _, _, _, e => by cases e
  | .tuple _ :: _, _, _, _, e => by cases e
  | .dict _ :: _, _, _, _, e => by cases e
theorem FzAll.of_ints : ∀ (ns : List Int), FzAll K F H (ns.map .int) (ns.map V.int)
  | [] => rfl
  | n :: ns => ⟨_, _, rfl, rfl, FzAll.of_ints ns⟩
theorem foldl_max : ∀ (is : List Int) (m : Int), (∀ y ∈ is, y ≤ is.foldl (fun m j => if j > m then j else m) m) ∧ m ≤ is.foldl (fun m j => if j > m then j else m) m ∧ (is.foldl (fun m j => if j > m then j else m) m ∈ is ∨ is.foldl (fun m j => if j > m then j else m) m = m)
  | [], m => ⟨fun _ h => (nomatch h), Int.le_refl _, .inr rfl⟩
  | i :: is, m => by
    obtain ⟨h1, h2, h3⟩ := foldl_max is (if i > m then i else m)
    rw [List.foldl_cons]
    have h4 : m ≤ (if i > m then i else m) ∧ i ≤ (if i > m then i else m) ∧ ((if i > m then i else m) = i ∨ (if i > m then i else m) = m) := by
      split
      · exact ⟨by omega, by omega, .inl rfl⟩
      · exact ⟨by omega, by omega, .inr rfl⟩
    refine ⟨fun y hy => ?_, Int.le_trans h4.1 h2, ?_⟩
    · rcases List.mem_cons.mp hy with rfl | hy
      · exact Int.le_trans h4.2.1 h2
      · exact h1 y hy
    · rcases h3 with h3 | h3
      · exact .inl (List.mem_cons_of_mem _ h3)
      · rcases h4.2.2 with h5 | h5
        · exact .inl (List.mem_cons.mpr (.inl (h3.trans h5)))
        · exact .inr (h3.trans h5)
theorem foldl_min : ∀ (is : List Int) (m : Int), (∀ y ∈ is, is.foldl (fun m j => if j < m then j else m) m ≤ y) ∧ is.foldl (fun m j => if j < m then j else m) m ≤ m ∧ (is.foldl (fun m j => if j < m then j else m) m ∈ is ∨ is.foldl (fun m j => if j < m then j else m) m = m)
  | [], m => ⟨fun _ h => (nomatch h), Int.le_refl _, .inr rfl⟩
  | i :: is, m => by
    obtain ⟨h1, h2, h3⟩ := foldl_min is (if i < m then i else m)
    rw [List.foldl_cons]
    have h4 : (if i < m then i else m) ≤ m ∧ (if i < m then i else m) ≤ i ∧ ((if i < m then i else m) = i ∨ (if i < m then i else m) = m) := by
      split
      · exact ⟨by omega, by omega, .inl rfl⟩
      · exact ⟨by omega, by omega, .inr rfl⟩
    refine ⟨fun y hy => ?_, Int.le_trans h2 h4.1, ?_⟩
    · rcases List.mem_cons.mp hy with rfl | hy
      · exact Int.le_trans h2 h4.2.1
      · exact h1 y hy
    · rcases h3 with h3 | h3
      · exact .inl (List.mem_cons_of_mem _ h3)
      · rcases h4.2.2 with h5 | h5
        · exact .inl (List.mem_cons.mpr (.inl (h3.trans h5)))
        · exact .inr (h3.trans h5)
theorem maxI_spec {is : List Int} {m : Int} (h : maxI is = some m) : m ∈ is ∧ ∀ y ∈ is, y ≤ m := by
  cases is with
  | nil => cases h
  | cons i is =>
    cases h
    obtain ⟨h1, h2, h3⟩ := foldl_max is i
    refine ⟨?_, fun y hy => ?_⟩
    · rcases h3 with h3 | h3
      · exact List.mem_cons_of_mem _ h3
      · rw [h3]; exact List.mem_cons_self
    · rcases List.mem_cons.mp hy with rfl | hy
      · exact h2
      · exact h1 y hy
theorem minI_spec {is : List Int} {m : Int} (h : minI is = some m) : m ∈ is ∧ ∀ y ∈ is, m ≤ y := by
  cases is with
  | nil => cases h
  | cons i is =>
    cases h
    obtain ⟨h1, h2, h3⟩ := foldl_min is i
    refine ⟨?_, fun y hy => ?_⟩
    · rcases h3 with h3 | h3
      · exact List.mem_cons_of_mem _ h3
      · rw [h3]; exact List.mem_cons_self
    · rcases List.mem_cons.mp hy with rfl | hy
      · exact h2
      · exact h1 y hy
theorem insI_perm (i : Int) : ∀ js : List Int, (insI i js).Perm (i :: js)
  | [] => List.Perm.refl _
  | j :: js => by
    unfold insI
    split
    · exact List.Perm.refl _
    · exact ((insI_perm i js).cons j).trans (List.Perm.swap _ _ _)
theorem sortI_perm : ∀ is : List Int, (sortI is).Perm is
  | [] => List.Perm.refl _
  | i :: is => (insI_perm i (sortI is)).trans ((sortI_perm is).cons i)
theorem insI_up (i : Int) : ∀ js : List Int, js.Pairwise (· ≤ ·) → (insI i js).Pairwise (· ≤ ·)
  | [], _ => List.pairwise_singleton _ _
  | j :: js, h => by
    unfold insI
    have h' := List.pairwise_cons.mp h
    split
    · rename_i c
      refine List.pairwise_cons.mpr ⟨fun y hy => ?_, h⟩
      rcases List.mem_cons.mp hy with rfl | hy
      · exact c
      · exact Int.le_trans c (h'.1 y hy)
    · refine List.pairwise_cons.mpr ⟨fun y hy => ?_, insI_up i js h'.2⟩
      rcases List.mem_cons.mp ((insI_perm i js).mem_iff.mp hy) with rfl | hy
      · omega
      · exact h'.1 y hy
theorem sortI_up : ∀ is : List Int, (sortI is).Pairwise (· ≤ ·)
  | [] => List.Pairwise.nil
  | i :: is => insI_up i _ (sortI_up is)
theorem up_unique : ∀ {xs ys : List Int}, xs.Perm ys → xs.Pairwise (· ≤ ·) → ys.Pairwise (· ≤ ·) → xs = ys := fun {xs ys} p h1 h2 =>
  List.Perm.eq_of_pairwise (fun a b _ _ h h' => Int.le_antisymm h h') h1 h2 p
end
/-- a built-in, as the machine names it -/
def biV : Bi → Value
  | .len => .builtin "len" | .abs => .builtin "abs" | .int => .type "int" | .bool => .type "bool" | .max2 => .builtin "max" | .min2 => .builtin "min" | .maxL => .builtin "max" | .minL => .builtin "min"
  | .sum => .builtin "sum" | .list => .type "list" | .tuple => .type "tuple" | .repr => .builtin "repr" | .any => .builtin "any" | .all => .builtin "all" | .sorted => .builtin "sorted"
def KpAll (K : PySem.W.Frag) (F : Addr → Prop) (H : Hp) : List PyData → List V → Prop
  | [], xs => xs = []
  | d :: ds, xs => ∃ x r, xs = x :: r ∧ Kp K F H d x ∧ KpAll K F H ds r
def rBi (K : PySem.W.Frag) (b : Bi) : List V → Hp → VK → Prop := fun vs H Q => ∃ (F₁ F : Addr → Prop) (ds : List PyData) (z : OD), (if b.shares then KpAll K F H ds vs else FzAll K F₁ H ds vs) ∧ (∀ b, F b → H b ≠ none) ∧ biD b ds = some z ∧ ∀ v H' F' Sv, Made K F H z v H' F' Sv → Q v H'
section
variable {X : Cx}
theorem one_of {K : PySem.W.Frag} {F : Addr → Prop} {H : Hp} {d : PyData} {vs : List V} (h : FzAll K F H [d] vs) : ∃ x, vs = [x] ∧ Fz K F H d x := by
  obtain ⟨x, r, rfl, h1, rfl⟩ := h
  exact ⟨x, rfl, h1⟩
theorem two_of {K : PySem.W.Frag} {F : Addr → Prop} {H : Hp} {d e : PyData} {vs : List V} (h : FzAll K F H [d, e] vs) : ∃ x y, vs = [x, y] ∧ Fz K F H d x ∧ Fz K F H e y := by
  obtain ⟨x, r, rfl, h1, y, r', rfl, h2, rfl⟩ := h
  exact ⟨x, y, rfl, h1, h2⟩
theorem fz_reads {pins : List (Addr × Obj)} {σ : L2.St} {H : Hp} {s : Shared} {F : Addr → Prop} {d : PyData} {x : V} {v : Value} (I : Inv X pins σ H s) (h : Fz X.K F H d x) (r : RelV x v) (c : d.canLay0 = true) : ∃ as, Reads s.heap v d as :=
  Dp.reads I d x v (Fz.dp d x h c) r
theorem noDict (e : PyData) : e.canLay0 = true → e.hasDict = false := by
  refine PyData.rec (motive_1 := fun e => e.canLay0 = true → e.hasDict = false) (motive_2 := fun es => PyData.canLayAll0 es = true → PyData.hasDictAll es = false) (motive_3 := fun _ => True) (motive_4 := fun _ => True) ?_ ?_ ?_ ?_ ?_ ?_ ?_ ?_ ?_ ?_ ?_ ?_ e
  all_goals first | (intros; trivial) | skip
  all_goals (intros; first | rfl | (simp only [PyData.canLay0, PyData.canLayAll0, Bool.and_eq_true] at *; simp_all [PyData.hasDict, PyData.hasDictAll]))
/-- repr of data -/
theorem repr_any (hg : X.A.guards = some []) (hu : X.A.units + 70 < cLine) {pins : List (Addr × Obj)} {s : Shared} {σ : L2.St} {H : Hp} {x : V} {v : Value} {Q : VK} {F : Addr → Prop} {d : PyData} (I : Inv X pins σ H s) (rx : RelV x v) (hd : Fz X.K F H d x)
    (ok : reprOk d = true) (q : Q (.str d.shown) H) : wpAny (model X.prog X.w) X.A (call (.builtin "repr") [v]) (EP X pins σ Q) X.xe s := by
  unfold reprOk at ok
  simp only [Bool.and_eq_true, decide_eq_true_eq] at ok
  obtain ⟨⟨⟨sh, dp⟩, sz⟩, cl⟩ := ok
  rw [lim_eq] at sz
  have big : ∀ a : Addr, v = .ref a → wpAny (model X.prog X.w) X.A (call (.builtin "repr") [v]) (EP X pins σ Q) X.xe s := fun a e => by
    subst e
    obtain ⟨as, rd⟩ := fz_reads I hd rx cl
    refine repr_of_reads' rd sh (fun z => ?_) hg (by omega) (fun _ _ q => q) (fun h' u tk hk => ⟨.str d.shown, H, I.kept (t' := tk) hk, ⟨_, rfl⟩, q⟩) sz
    cases d with
    | dict _ => cases cl
    | list ds => rw [noDict _ cl] at z; cases z
    | tuple ds => rw [noDict _ cl] at z; cases z
    | _ => cases z
  cases d with
  | none =>
    cases hd
    cases rx
    exact PySem.P.repr_of_none ⟨.str _, H, I.tok _, ⟨_, rfl⟩, q⟩
  | bool b =>
    cases hd
    cases rx
    refine PySem.P.repr_of_bool ⟨.str _, H, I.tok _, ⟨_, rfl⟩, ?_⟩
    cases b <;> exact q
  | int i =>
    cases hd
    obtain ⟨t, rfl⟩ := rx
    exact PySem.P.repr_of_int (of_decide_eq_true sh) ⟨.str _, H, I.tok _, ⟨_, rfl⟩, q⟩
  | str y =>
    cases hd
    obtain ⟨t, rfl⟩ := rx
    exact PySem.P.repr_of_str ⟨.str _, H, I.tok _, ⟨_, rfl⟩, q⟩ sz
  | list ds =>
    obtain ⟨a, xs, rfl, _⟩ := id hd
    exact big a rx
  | tuple ds =>
    obtain ⟨a, xs, rfl, _⟩ := id hd
    exact big a rx
  | dict ds => cases cl
theorem kp_seq {K : PySem.W.Frag} {F : Addr → Prop} {H : Hp} {d : PyData} {v : V} {ds : List PyData} (h : Kp K F H d v) (e : seqD d = some ds) : ∃ a xs, v = .ref a ∧ (SqL K H a xs ∨ SqT K H a xs) ∧ FzAll K F H ds xs := by
  cases d with
  | list es =>
    cases e
    obtain ⟨a, xs, rfl, h1, h2⟩ := h
    exact ⟨a, xs, rfl, .inl (.inl h1), h2⟩
  | tuple es =>
    cases e
    obtain ⟨a, xs, rfl, h1, h2⟩ := fz_tup h
    exact ⟨a, xs, rfl, .inr h1, h2⟩
  | _ => cases e
theorem call_bi (hc : X.calm = true) (hg : X.A.guards = some []) (hu : X.A.units + 70 < cLine) (b : Bi) : CallR X (biV b) (rBi X.K b) := by
  intro pins s σ H vs us Q I r h
  obtain ⟨F₁, F, ds, z, hds, hF, hz, q⟩ := h
  have fr : ∀ p, H p = none → ¬ F p := fun p np hp => hF p hp np
  have sc : ∀ {d : PyData} {v : V}, Fz X.K F H d v → biD b ds = some (.fz d) → Q v H := fun {d v} hd e => by
    rw [hz] at e
    cases e
    exact q _ _ _ _ (Made.fz hd)
  unfold biD at hz
  split at hz
  -- len
  · cases hz
    obtain ⟨x, rfl, a, xs, rfl, _, hs, hx⟩ := one_of hds
    exact call_len pins s σ H _ us Q I r ⟨_, _, rfl, .inl ⟨xs, .inl hs, rfl⟩, q _ _ _ _ (Made.fz (by rw [hx.length]; rfl))⟩
  · cases hz
    obtain ⟨x, rfl, hx⟩ := one_of hds
    obtain ⟨a, xs, rfl, hs, hx⟩ := fz_tup hx
    exact call_len pins s σ H _ us Q I r ⟨_, _, rfl, .inr ⟨xs, hs, rfl⟩, q _ _ _ _ (Made.fz (by rw [hx.length]; rfl))⟩
  · cases hz
    obtain ⟨x, rfl, a, es, rfl, _, hs, hx⟩ := one_of hds
    obtain ⟨u, rfl, rx⟩ := vals1 r
    cases rx
    refine d_len I hs fun t s' I' => ⟨.int es.length, H, I', ⟨t, rfl⟩, q _ _ _ _ (Made.fz ?_)⟩
    have e1 := (FzKv.keys hx).2.length
    rw [List.length_map, List.length_map] at e1
    rw [e1]; rfl
  · split at hz
    · rename_i c
      cases hz
      obtain ⟨x, rfl, rfl⟩ := one_of hds
      exact call_len pins s σ H _ us Q I r ⟨_, _, rfl, ⟨by rw [← lim_eq]; exact c, rfl⟩, q _ _ _ _ (Made.fz rfl)⟩
    · cases hz
  -- abs, int, bool
  · cases hz
    obtain ⟨x, rfl, rfl⟩ := one_of hds
    exact call_abs pins s σ H _ us Q I r ⟨_, rfl, q _ _ _ _ (Made.fz rfl)⟩
  · cases hz
    obtain ⟨x, rfl, rfl⟩ := one_of hds
    exact call_int1 pins s σ H _ us Q I r (.inl ⟨_, rfl, q _ _ _ _ (Made.fz rfl)⟩)
  · cases hz
    obtain ⟨x, rfl, rfl⟩ := one_of hds
    exact call_int1 pins s σ H _ us Q I r (.inr ⟨_, rfl, q _ _ _ _ (Made.fz rfl)⟩)
  · cases hz
    obtain ⟨x, rfl, rfl⟩ := one_of hds
    exact call_bool1 pins s σ H _ us Q I r (.inl ⟨_, rfl, q _ _ _ _ (Made.fz rfl)⟩)
  · cases hz
    obtain ⟨x, rfl, rfl⟩ := one_of hds
    exact call_bool1 pins s σ H _ us Q I r (.inr ⟨_, rfl, q _ _ _ _ (Made.fz rfl)⟩)
  -- max, min
  · cases hz
    obtain ⟨x, y, rfl, rfl, rfl⟩ := two_of hds
    exact call_max2 hc pins s σ H _ us Q I r ⟨_, _, rfl, q _ _ _ _ (Made.fz rfl)⟩
  · cases hz
    obtain ⟨x, y, rfl, rfl, rfl⟩ := two_of hds
    exact call_min2 hc pins s σ H _ us Q I r ⟨_, _, rfl, q _ _ _ _ (Made.fz rfl)⟩
  · obtain ⟨is, e1, e2⟩ := Option.bind_eq_some_iff.mp hz
    obtain ⟨m, e3, rfl⟩ := Option.map_eq_some_iff.mp e2
    obtain ⟨x, rfl, a, xs, rfl, _, hs, hx⟩ := one_of hds
    obtain rfl := hx.ints e1
    have h0 : 0 < is.length := by
      cases is with
      | nil => cases e3
      | cons _ _ => exact Nat.succ_pos _
    refine cr_max hc pins s σ H _ us Q I r ⟨a, is, rfl, .inl hs, h0, fun m' h1 h2 => ?_⟩
    obtain ⟨g1, g2⟩ := maxI_spec e3
    rw [Int.le_antisymm (g2 m' h1) (h2 m g1)]
    exact q _ _ _ _ (Made.fz rfl)
  · obtain ⟨is, e1, e2⟩ := Option.bind_eq_some_iff.mp hz
    obtain ⟨m, e3, rfl⟩ := Option.map_eq_some_iff.mp e2
    obtain ⟨x, rfl, a, xs, rfl, _, hs, hx⟩ := one_of hds
    obtain rfl := hx.ints e1
    have h0 : 0 < is.length := by
      cases is with
      | nil => cases e3
      | cons _ _ => exact Nat.succ_pos _
    refine cr_min hc pins s σ H _ us Q I r ⟨a, is, rfl, .inl hs, h0, fun m' h1 h2 => ?_⟩
    obtain ⟨g1, g2⟩ := minI_spec e3
    rw [Int.le_antisymm (h2 m g1) (g2 m' h1)]
    exact q _ _ _ _ (Made.fz rfl)
  -- sum
  · obtain ⟨is, e1, rfl⟩ := Option.map_eq_some_iff.mp hz
    obtain ⟨x, rfl, a, xs, rfl, _, hs, hx⟩ := one_of hds
    obtain rfl := hx.ints e1
    exact cr_sum hc pins s σ H _ us Q I r ⟨a, is, rfl, .inl hs, q _ _ _ _ (Made.fz rfl)⟩
  -- list, tuple
  · cases hz
    obtain ⟨x, _, rfl, ⟨a, xs, rfl, hs, hx⟩, rfl⟩ := hds
    exact call_list_of pins s σ H _ us Q I r ⟨a, xs, rfl, .inl (.inl hs), fun l nl => q _ _ _ _ (Made.lst nl (fr l nl) hx)⟩
  · cases hz
    obtain ⟨x, _, rfl, hx, rfl⟩ := hds
    obtain ⟨a, xs, rfl, hs, hx⟩ := fz_tup hx
    exact call_list_of pins s σ H _ us Q I r ⟨a, xs, rfl, .inr hs, fun l nl => q _ _ _ _ (Made.lst nl (fr l nl) hx)⟩
  · cases hz
    obtain ⟨x, _, rfl, ⟨a, xs, rfl, hs, hx⟩, rfl⟩ := hds
    exact call_tuple_of pins s σ H _ us Q I r ⟨a, xs, rfl, .inl ⟨.inl hs, fun l nl => q _ _ _ _ (Made.tup nl hx)⟩⟩
  · cases hz
    obtain ⟨x, _, rfl, hx, rfl⟩ := hds
    obtain ⟨a, xs, rfl, hs, _⟩ := fz_tup hx
    exact call_tuple_of pins s σ H _ us Q I r ⟨a, xs, rfl, .inr ⟨hs, q _ _ _ _ (Made.fz hx)⟩⟩
  -- repr
  · split at hz
    · rename_i c
      cases hz
      obtain ⟨x, rfl, hx⟩ := one_of hds
      obtain ⟨u, rfl, rx⟩ := vals1 r
      exact repr_any hg hu I rx hx c (q _ _ _ _ (Made.fz rfl))
    · cases hz
  -- any, all
  · obtain ⟨bs, e1, rfl⟩ := Option.map_eq_some_iff.mp hz
    obtain ⟨x, rfl, a, xs, rfl, _, hs, hx⟩ := one_of hds
    obtain rfl := hx.bools e1
    exact cr_any hc pins s σ H _ us Q I r ⟨a, bs, rfl, .inl hs, q _ _ _ _ (Made.fz rfl)⟩
  · obtain ⟨bs, e1, rfl⟩ := Option.map_eq_some_iff.mp hz
    obtain ⟨x, rfl, a, xs, rfl, _, hs, hx⟩ := one_of hds
    obtain rfl := hx.bools e1
    exact cr_all hc pins s σ H _ us Q I r ⟨a, bs, rfl, .inl hs, q _ _ _ _ (Made.fz rfl)⟩
  -- sorted
  · obtain ⟨is, e1, rfl⟩ := Option.map_eq_some_iff.mp hz
    obtain ⟨x, rfl, a, xs, rfl, _, hs, hx⟩ := one_of hds
    obtain rfl := hx.ints e1
    refine cr_sortedI pins s σ H _ us Q I r ⟨a, is, rfl, .inl hs, fun ns' p hp hu' np => ?_⟩
    rw [up_unique (hp.trans (sortI_perm is).symm) hu' (sortI_up is)]
    exact q _ _ _ _ (Made.lst np (fr p np) (FzAll.of_ints _))
  all_goals cases hz
end
end HW
end

section
set_option Elab.async false
set_option linter.all false
set_option maxRecDepth 100000
set_option maxHeartbeats 1000000
/-! # What it means that a reading meets the interpreter; operands -/
namespace HW
open PySem PySem.Spec PyProof.Rows L2

/-- how the machine bears an exception: its class, its dict, behind it -/
abbrev XRel := Exn → Value → Option Addr → Hp → (Addr → Prop) → Prop
/-- a child of a place -/
def KidV (H : Hp) (a : Addr) (k : PyData) (v : V) : Prop :=
  (∃ xs i, H a = some (.lst xs) ∧ k = .int i ∧ item xs i = some v) ∨ (∃ es y, H a = some (.dK es) ∧ keyR k y ∧ valV es y = some v)
def PathV (H : Hp) : V → List PyData → V → Prop
  | v, [], w => w = v
  | v, k :: ks, w => ∃ a v', v = .ref a ∧ KidV H a k v' ∧ PathV H v' ks w
/-- an operand's value -/
def OpdR (K : PySem.W.Frag) (F : Addr → Prop) (H : Hp) (σ : L2.St) : Opd → V → Prop
  | .fz d, v => Fz K F H d v
  | .at i ks, v => ∃ v0, σ[i]? = some (some v0) ∧ PathV H v0 ks v
def Post {α : Type} (ok : α → Env → Prop) (ex : Exn → Env → Prop) : Out α → Prop
  | .ok a e => ok a e
  | .exn x e => ex x e
  | .bad => False
section
variable (K : PySem.W.Frag) (XR : XRel) (W : WX) (σ : L2.St) (os : List OD) (vs : List V) (T : List Addr)
/-- an exception goes out -/
def PostX (H : Hp) (F : Addr → Prop) (A : List Addr) (x : Exn) (e' : Env) : Prop :=
  ∀ H' F' S' cls d, Rel K F' H' e' σ os vs S' T → Step false H F A H' F' (S' ++ T) → XR x cls d H' F' → W cls d σ H'
def OkO (q : Bool) (Q : VK) (H : Hp) (F : Addr → Prop) (A : List Addr) (p : Opd) (e' : Env) : Prop :=
  ∀ v H' F' S', Rel K F' H' e' σ os vs S' T → OpdR K F' H' σ p v → Step q H F A H' F' (S' ++ T) → Q v H'
def OkV (q : Bool) (Q : VK) (H : Hp) (F : Addr → Prop) (A : List Addr) (o : OD) (e' : Env) : Prop :=
  ∀ v H' F' S' Sv, Rel K F' H' e' σ os vs S' T → Top K F' H' o v S' Sv T → Step q H F A H' F' (S' ++ (Sv ++ T)) → Q v H'
def OkR (q : Bool) (Q : VK) (H : Hp) (F : Addr → Prop) (A : List Addr) (r : Rv) (e' : Env) : Prop := match r with
  | .tmp o => OkV K σ os vs T q Q H F A o e'
  | .at i ks => OkO K σ os vs T q Q H F A (.at i ks) e'
def OkD (q : Bool) (Q : VK) (H : Hp) (F : Addr → Prop) (A : List Addr) (d : PyData) (e' : Env) : Prop :=
  ∀ v H' F' S', Rel K F' H' e' σ os vs S' T → Fz K F' H' d v → Step q H F A H' F' (S' ++ T) → Q v H'
end
section
variable (K : PySem.W.Frag) (XR : XRel) (W : WX) (q : Bool)
def MR (t : TE) (f : M Rv) : Prop := ∀ e σ F H os vs S T (Q : VK), Rel K F H e σ os vs S T → Post (OkR K σ os vs T q Q H F (S ++ T)) (PostX K XR W σ os vs T H F (S ++ T)) (f e) → t σ H Q
def MO (t : TE) (f : M Opd) : Prop := ∀ e σ F H os vs S T (Q : VK), Rel K F H e σ os vs S T → Post (OkO K σ os vs T q Q H F (S ++ T)) (PostX K XR W σ os vs T H F (S ++ T)) (f e) → t σ H Q
def MV (t : TE) (f : M OD) : Prop := ∀ e σ F H os vs S T (Q : VK), Rel K F H e σ os vs S T → Post (OkV K σ os vs T q Q H F (S ++ T)) (PostX K XR W σ os vs T H F (S ++ T)) (f e) → t σ H Q
def MD (t : TE) (f : M PyData) : Prop := ∀ e σ F H os vs S T (Q : VK), Rel K F H e σ os vs S T → Post (OkD K σ os vs T q Q H F (S ++ T)) (PostX K XR W σ os vs T H F (S ++ T)) (f e) → t σ H Q
end
section
variable {K : PySem.W.Frag} {XR : XRel} {W : WX} {q q' : Bool} {F F' F1 : Addr → Prop} {H H' H1 : Hp} {e e' : Env} {σ : L2.St} {os : List OD} {vs : List V} {S S' T A A1 Sv : List Addr} {Q : VK} {t : TE}
theorem PostX.after {x : Exn} (h : PostX K XR W σ os vs T H F A x e') (s : Step q H F A H1 F1 A1) : PostX K XR W σ os vs T H1 F1 A1 x e' := fun H' F' S' cls d r s' xr =>
  h H' F' S' cls d r ((s.trans s').weak fun z => by cases z) xr
/-- a piece, and what follows it -/
theorem MO.bind {α : Type} {f : M Opd} {k : Opd → M α} {G : VK} {ok : α → Env → Prop} {ex : Exn → Env → Prop} (m : MO K XR W q t f) (r : Rel K F H e σ os vs S T) (h : Post ok ex (bnd f k e)) (hx : ∀ x e', ex x e' → PostX K XR W σ os vs T H F (S ++ T) x e')
    (c : ∀ p e1 v H1 F1 S1, f e = .ok p e1 → Rel K F1 H1 e1 σ os vs S1 T → OpdR K F1 H1 σ p v → Step q H F (S ++ T) H1 F1 (S1 ++ T) → Post ok ex (k p e1) → G v H1) : t σ H G := by
  refine m e σ F H os vs S T G r ?_
  unfold bnd Out.andThen at h
  cases z : f e with
  | ok p e1 => rw [z] at h; exact fun v H1 F1 S1 r1 o1 s1 => c p e1 v H1 F1 S1 z r1 o1 s1 h
  | exn x e1 => rw [z] at h; exact hx x e1 h
  | bad => rw [z] at h; exact h
theorem MR.bind {α : Type} {f : M Rv} {k : Rv → M α} {G : VK} {ok : α → Env → Prop} {ex : Exn → Env → Prop} (m : MR K XR W q t f) (r : Rel K F H e σ os vs S T) (h : Post ok ex (bnd f k e)) (hx : ∀ x e', ex x e' → PostX K XR W σ os vs T H F (S ++ T) x e')
    (c1 : ∀ o e1 v H1 F1 S1 Sv, Rel K F1 H1 e1 σ os vs S1 T → Top K F1 H1 o v S1 Sv T → Step q H F (S ++ T) H1 F1 (S1 ++ (Sv ++ T)) → Post ok ex (k (.tmp o) e1) → G v H1)
    (c2 : ∀ i ks e1 v H1 F1 S1, Rel K F1 H1 e1 σ os vs S1 T → (∃ v0, σ[i]? = some (some v0) ∧ PathV H1 v0 ks v) → Step q H F (S ++ T) H1 F1 (S1 ++ T) → Post ok ex (k (.at i ks) e1) → G v H1) : t σ H G := by
  refine m e σ F H os vs S T G r ?_
  unfold bnd Out.andThen at h
  cases z : f e with
  | ok p e1 =>
    rw [z] at h
    cases p with
    | tmp o => exact fun v H1 F1 S1 Sv r1 t1 s1 => c1 o e1 v H1 F1 S1 Sv r1 t1 s1 h
    | «at» i ks => exact fun v H1 F1 S1 r1 o1 s1 => c2 i ks e1 v H1 F1 S1 r1 o1 s1 h
  | exn x e1 => rw [z] at h; exact hx x e1 h
  | bad => rw [z] at h; exact h
theorem MV.bind {α : Type} {f : M OD} {k : OD → M α} {G : VK} {ok : α → Env → Prop} {ex : Exn → Env → Prop} (m : MV K XR W q t f) (r : Rel K F H e σ os vs S T) (h : Post ok ex (bnd f k e)) (hx : ∀ x e', ex x e' → PostX K XR W σ os vs T H F (S ++ T) x e')
    (c1 : ∀ o e1 v H1 F1 S1 Sv, Rel K F1 H1 e1 σ os vs S1 T → Top K F1 H1 o v S1 Sv T → Step q H F (S ++ T) H1 F1 (S1 ++ (Sv ++ T)) → Post ok ex (k o e1) → G v H1) : t σ H G := by
  refine m e σ F H os vs S T G r ?_
  unfold bnd Out.andThen at h
  cases z : f e with
  | ok p e1 => rw [z] at h; exact fun v H1 F1 S1 Sv r1 t1 s1 => c1 p e1 v H1 F1 S1 Sv r1 t1 s1 h
  | exn x e1 => rw [z] at h; exact hx x e1 h
  | bad => rw [z] at h; exact h
theorem MD.bind {α : Type} {f : M PyData} {k : PyData → M α} {G : VK} {ok : α → Env → Prop} {ex : Exn → Env → Prop} (m : MD K XR W q t f) (r : Rel K F H e σ os vs S T) (h : Post ok ex (bnd f k e)) (hx : ∀ x e', ex x e' → PostX K XR W σ os vs T H F (S ++ T) x e')
    (c : ∀ d e1 v H1 F1 S1, Rel K F1 H1 e1 σ os vs S1 T → Fz K F1 H1 d v → Step q H F (S ++ T) H1 F1 (S1 ++ T) → Post ok ex (k d e1) → G v H1) : t σ H G := by
  refine m e σ F H os vs S T G r ?_
  unfold bnd Out.andThen at h
  cases z : f e with
  | ok p e1 => rw [z] at h; exact fun v H1 F1 S1 r1 o1 s1 => c p e1 v H1 F1 S1 r1 o1 s1 h
  | exn x e1 => rw [z] at h; exact hx x e1 h
  | bad => rw [z] at h; exact h

/-! ## slots -/
/-- a slot's tree, out of the slots and in again -/
theorem OwS.split : ∀ {e : Env} {σ : L2.St} {S : List Addr} {i : Nat} {o : OD}, OwS K F H e σ S → e[i]? = some (some o) → ∃ v A B C, σ[i]? = some (some v) ∧ S = A ++ (B ++ C) ∧ Ow K F H o v B ∧
    (∀ F' H' o' v' B', (∀ b, F b → F' b) → (∀ b u, F b → H b = some u → H' b = some u) → (∀ b u, b ∈ A ++ C → H b = some u → H' b = some u) → Ow K F' H' o' v' B' → OwS K F' H' (e.set i (some o')) (σ.set i (some v')) (A ++ (B' ++ C))) ∧
    (∀ F' H', (∀ b, F b → F' b) → (∀ b u, F b → H b = some u → H' b = some u) → (∀ b u, b ∈ A ++ C → H b = some u → H' b = some u) → OwS K F' H' (e.set i none) σ (A ++ C))
  | [], _, _, _, _, _, h => by simp at h
  | none :: e, σ, S, i, o, h, g => by
    obtain ⟨x, r, rfl, h1⟩ := h
    cases i with
    | zero => simp at g
    | succ i =>
      obtain ⟨v, A, B, C, e1, e2, e3, e4, e5⟩ := OwS.split (i := i) h1 (by simpa using g)
      exact ⟨v, A, B, C, by simpa using e1, e2, e3, fun F' H' o' v' B' a b c d => ⟨x, _, rfl, e4 F' H' o' v' B' a b c d⟩, fun F' H' a b c => ⟨x, _, rfl, e5 F' H' a b c⟩⟩
  | some p :: e, σ, S, i, o, h, g => by
    obtain ⟨x, r, S1, S2, rfl, h1, h2, rfl⟩ := h
    cases i with
    | zero =>
      simp at g
      subst g
      refine ⟨x, [], S1, S2, rfl, rfl, h1, fun F' H' o' v' B' a b c d => ⟨v', r, B', S2, rfl, d, OwS.stay a b e r S2 (fun b u hb => c b u (by simpa using hb)) h2, rfl⟩, fun F' H' a b c => ⟨some x, r, rfl, OwS.stay a b e r S2 (fun b u hb => c b u (by simpa using hb)) h2⟩⟩
    | succ i =>
      obtain ⟨v, A, B, C, e1, e2, e3, e4, e5⟩ := OwS.split (i := i) h2 (by simpa using g)
      subst e2
      refine ⟨v, S1 ++ A, B, C, by simpa using e1, (List.append_assoc ..).symm, e3, fun F' H' o' v' B' a b c d => ?_, fun F' H' a b c => ?_⟩
      · refine ⟨x, r.set i (some v'), S1, A ++ (B' ++ C), rfl, Ow.stay a b p x S1 (fun b u hb => c b u (by simp [hb])) h1, e4 F' H' o' v' B' a b (fun b u hb => c b u ?_) d, List.append_assoc ..⟩
        rcases List.mem_append.mp hb with z | z <;> simp [z]
      · refine ⟨x, r, S1, A ++ C, rfl, Ow.stay a b p x S1 (fun b u hb => c b u (by simp [hb])) h1, e5 F' H' a b (fun b u hb => c b u ?_), List.append_assoc ..⟩
        rcases List.mem_append.mp hb with z | z <;> simp [z]
theorem set_same {α : Type} : ∀ {l : List α} {i : Nat} {x : α}, l[i]? = some x → l.set i x = l
  | [], _, _, _ => rfl
  | y :: l, 0, x, h => by simp at h; subst h; rfl
  | y :: l, i + 1, x, h => by
    show y :: l.set i x = y :: l
    rw [set_same (by simpa using h)]
/-- a slot's own tree is frozen -/
theorem Rel.freeze (r : Rel K F H e σ os vs S T) {i : Nat} {o : OD} {d : PyData} (g : e[i]? = some (some o)) (f : frz o = some d) : ∃ v F' S', σ[i]? = some (some v) ∧ Rel K F' H (e.set i (some (.fz d))) σ os vs S' T ∧ Fz K F' H d v ∧ Step true H F (S ++ T) H F' (S' ++ T) := by
  obtain ⟨v, A, B, C, e1, rfl, e3, e4, _⟩ := r.sl.split g
  have hF : ∀ b, F b → (F b ∨ b ∈ B) := fun _ z => .inl z
  have fzv : Fz K (fun b => F b ∨ b ∈ B) H d v := Ow.frz hF o v B d (fun b z => .inr z) e3 f
  have nd := r.nd
  have keepF : ∀ b u, F b → H b = some u → H b = some u := fun _ _ _ z => z
  have dj : ∀ b ∈ A ++ C ++ T, b ∉ B := fun b hb z => by
    have p1 : (B ++ (A ++ C ++ T)).Nodup := (List.Perm.nodup_iff (by
      have q := List.Perm.append_right T (List.perm_append_comm_assoc A B C)
      simpa only [List.append_assoc] using q)).mp nd
    exact (List.nodup_append.mp p1).2.2 b z b hb rfl
  refine ⟨v, fun b => F b ∨ b ∈ B, A ++ C, e1, ⟨?_, OwAll.stay hF keepF os vs T (fun _ _ _ z => z) r.tm, ?_, fun b hb z => ?_, fun b z => ?_⟩, fzv, ⟨fun _ _ z _ => z, fun _ z => z, hF, fun b z => z.imp id fun z => .inl (by simp [z]), fun b hb => .inl ?_⟩⟩
  · have := e4 (fun b => F b ∨ b ∈ B) H (.fz d) v [] hF keepF (fun _ _ _ z => z) ⟨fzv, rfl⟩
    rw [set_same e1] at this
    exact this
  · refine nd.sublist ?_
    exact List.Sublist.append_right (List.Sublist.append_left (List.sublist_append_right _ _) _) _
  · rcases z with z | z
    · refine r.ap b ?_ z
      rcases List.mem_append.mp hb with hb | hb
      · rcases List.mem_append.mp hb with hb | hb <;> simp [hb]
      · simp [hb]
    · exact dj b hb z
  · rcases z with z | z
    · exact r.tr b z
    · exact Ow.trk e3 b z
  · rcases List.mem_append.mp hb with hb | hb
    · rcases List.mem_append.mp hb with hb | hb <;> simp [hb]
    · simp [hb]
/-- the value at hand is frozen -/
theorem Rel.freezeTop {o : OD} {v : V} {d : PyData} (r : Rel K F H e σ os vs S T) (t : Top K F H o v S Sv T) (f : frz o = some d) : ∃ F', Rel K F' H e σ os vs S T ∧ Fz K F' H d v ∧ Step true H F (S ++ (Sv ++ T)) H F' (S ++ T) := by
  have hF : ∀ b, F b → (F b ∨ b ∈ Sv) := fun _ z => .inl z
  have keepF : ∀ b u, F b → H b = some u → H b = some u := fun _ _ _ z => z
  have dj : ∀ b ∈ S ++ T, b ∉ Sv := fun b hb z => by
    have nd := t.nd
    have p1 : (Sv ++ (S ++ T)).Nodup := (List.Perm.nodup_iff (by
      rw [← List.append_assoc, ← List.append_assoc]
      exact List.Perm.append_right T List.perm_append_comm)).mp nd
    exact (List.nodup_append.mp p1).2.2 b z b hb rfl
  exact ⟨fun b => F b ∨ b ∈ Sv, ⟨OwS.stay hF keepF e σ S (fun _ _ _ z => z) r.sl, OwAll.stay hF keepF os vs T (fun _ _ _ z => z) r.tm, r.nd, fun b hb z => z.elim (r.ap b hb) (dj b hb), fun b z => z.elim (r.tr b) (Ow.trk t.ow b)⟩, Ow.frz hF o v Sv d (fun b z => .inr z) t.ow f,
    ⟨fun _ _ z _ => z, fun _ z => z, hF, fun b z => z.imp id fun z => .inl (by simp [z]), fun b hb => .inl (by rcases List.mem_append.mp hb with z | z <;> simp [z])⟩⟩
end
end HW
end

section
set_option Elab.async false
set_option linter.all false
set_option maxRecDepth 100000
set_option maxHeartbeats 1000000
/-! # Operands seen, kept, given -/
namespace HW
open PySem PySem.Spec PyProof.Rows L2
section
variable {K : PySem.W.Frag} {XR : XRel} {W : WX} {q q' : Bool} {F F' F1 : Addr → Prop} {H H' H1 : Hp} {e e' : Env} {σ : L2.St} {os : List OD} {vs : List V} {S S' T A A1 Sv : List Addr} {Q : VK} {t : TE}
theorem OwAll.get : ∀ {os : List OD} {xs : List V} {S : List Addr} {j : Nat} {p : OD}, OwAll K F H os xs S → os[j]? = some p → ∃ x S1, xs[j]? = some x ∧ Ow K F H p x S1 ∧ ∀ b ∈ S1, b ∈ S
  | [], _, _, _, _, _, g => by simp at g
  | o :: os, _, _, 0, p, ⟨x, r, S1, S2, e1, h1, h2, e2⟩, g => by
    subst e1 e2
    simp at g
    subst g
    exact ⟨x, S1, rfl, h1, fun b hb => List.mem_append_left _ hb⟩
  | o :: os, _, _, j + 1, p, ⟨x, r, S1, S2, e1, h1, h2, e2⟩, g => by
    subst e1 e2
    obtain ⟨y, S3, g1, g2, g3⟩ := OwAll.get (j := j) h2 (by simpa using g)
    exact ⟨y, S3, by simpa using g1, g2, fun b hb => List.mem_append_right _ (g3 b hb)⟩
/-- a child: its tree and its value -/
theorem Ow.kid {o p : OD} {v w : V} {B : List Addr} {k : PyData} {a : Addr} (h : Ow K F H o v B) (g : HW.kid o k = some p) (ea : v = .ref a) (kv : KidV H a k w) : ∃ B', Ow K F H p w B' ∧ ∀ b ∈ B', b ∈ B := by
  subst ea
  cases o with
  | fz d => cases g
  | lst os =>
    obtain ⟨a', xs, S', e, h1, h2, rfl⟩ := h
    cases e
    cases k with
    | int i =>
      obtain ⟨j, e1, e2⟩ := Option.bind_eq_some_iff.mp (show (place os.length i).bind (fun j => os[j]?) = some p from g)
      obtain ⟨x, S1, g1, g2, g3⟩ := h2.get e2
      rcases kv with ⟨xs', i', k1, k2, k3⟩ | ⟨es, y, k1, _⟩
      · rw [h1] at k1; cases k1
        cases k2
        unfold item at k3
        rw [h2.length, e1] at k3
        have : xs[j]? = some w := k3
        rw [g1] at this; cases this
        exact ⟨S1, g2, fun b hb => List.mem_cons_of_mem _ (g3 b hb)⟩
      · rw [h1] at k1; cases k1
    | _ => cases g
  | dct ks os =>
    obtain ⟨a', es, S', e, h1, hk, h2, rfl⟩ := h
    cases e
    have g : (if keyOk k = true then look ks os k else none) = some p := by cases k <;> exact g
    split at g
    · rcases kv with ⟨xs', i', k1, _⟩ | ⟨es', y, k1, k2, k3⟩
      · rw [h1] at k1; cases k1
      · rw [h1] at k1; cases k1
        obtain ⟨i, pr, e1, e2, e3⟩ := keysR_look k2 hk g
        rw [k3] at e3; cases e3
        obtain ⟨x, S1, g1, g2, g3⟩ := h2.get e2
        rw [List.getElem?_map, e1] at g1
        cases g1
        exact ⟨S1, g2, fun b hb => List.mem_cons_of_mem _ (g3 b hb)⟩
    · cases g
  | ins c fs os => exact h.elim
theorem Ow.at : ∀ {ks : List PyData} {o p : OD} {v w : V} {B : List Addr}, Ow K F H o v B → getAt o ks = some p → PathV H v ks w → ∃ B', Ow K F H p w B' ∧ ∀ b ∈ B', b ∈ B
  | [], o, p, v, w, B, h, g, pv => by
    cases g
    obtain rfl : w = v := pv
    exact ⟨B, h, fun _ z => z⟩
  | k :: ks, o, p, v, w, B, h, g, ⟨a, v', ea, kv, pv⟩ => by
    obtain ⟨o', g1, g2⟩ := Option.bind_eq_some_iff.mp g
    obtain ⟨B1, h1, s1⟩ := h.kid g1 ea kv
    obtain ⟨B2, h2, s2⟩ := Ow.at h1 g2 pv
    exact ⟨B2, h2, fun b hb => s1 b (s2 b hb)⟩
theorem slot_of {i : Nat} {o : OD} {e1 : Env} (h : slot i e = .ok o e1) : e1 = e ∧ e[i]? = some (some o) := by
  unfold slot at h
  split at h
  · rename_i o' g
    injection h with h1 h2
    exact ⟨h2.symm, by rw [g, h1]⟩
  · cases h
theorem bnd_ok {α β : Type} {m : M α} {k : α → M β} {b : β} {e' : Env} (h : bnd m k e = .ok b e') : ∃ a e1, m e = .ok a e1 ∧ k a e1 = .ok b e' := by
  unfold bnd Out.andThen at h
  cases z : m e with
  | ok a e1 => rw [z] at h; exact ⟨a, e1, rfl, h⟩
  | exn x e1 => rw [z] at h; cases h
  | bad => rw [z] at h; cases h
theorem bnd_exn {α β : Type} {m : M α} {k : α → M β} {x : Exn} {e' : Env} (h : bnd m k e = .exn x e') : m e = .exn x e' ∨ ∃ a e1, m e = .ok a e1 ∧ k a e1 = .exn x e' := by
  unfold bnd Out.andThen at h
  cases z : m e with
  | ok a e1 => rw [z] at h; exact .inr ⟨a, e1, rfl, h⟩
  | exn y e1 => rw [z] at h; injection h with h1 h2; rw [h1, h2]; exact .inl rfl
  | bad => rw [z] at h; cases h
theorem opt_exn {α : Type} {o : Option α} {x : Exn} {e' : Env} (h : opt o e = .exn x e') : False := by cases o <;> cases h
/-- the tree at a place -/
theorem at_of (r : Rel K F H e σ os vs S T) {i : Nat} {ks : List PyData} {v : V} {p : OD} {e1 : Env} (o : OpdR K F H σ (.at i ks) v) (h : slotAt i ks e = .ok p e1) : e1 = e ∧ ∃ o v0, e[i]? = some (some o) ∧ σ[i]? = some (some v0) ∧ getAt o ks = some p ∧ ∃ B B', Ow K F H o v0 B ∧ Ow K F H p v B' ∧ (∀ b ∈ B', b ∈ B) ∧ ∀ b ∈ B, b ∈ S := by
  obtain ⟨v0, hv, pv⟩ := o
  have h' : bnd (slot i) (fun o => opt (getAt o ks)) e = .ok p e1 := h
  unfold bnd Out.andThen at h'
  cases z : slot i e with
  | ok o e2 =>
    obtain ⟨rfl, g⟩ := slot_of z
    rw [z] at h'
    have h' : opt (getAt o ks) e2 = .ok p e1 := h'
    cases zz : getAt o ks with
    | none => rw [zz] at h'; cases h'
    | some p' =>
      rw [zz] at h'
      injection h' with h1 h2
      subst h1 h2
      obtain ⟨v, A, B, C, e3, rfl, e4, _⟩ := r.sl.split g
      rw [hv] at e3; cases e3
      obtain ⟨B', q1, q2⟩ := Ow.at e4 zz pv
      exact ⟨rfl, o, v0, g, hv, zz, B, B', e4, q1, q2, fun b hb => List.mem_append_right _ (List.mem_append_left _ hb)⟩
  | exn x e2 => rw [z] at h'; cases h'
  | bad => rw [z] at h'; cases h'
/-- what is seen: frozen in all that is ours -/
abbrev FS (F : Addr → Prop) (S : List Addr) : Addr → Prop := fun b => F b ∨ b ∈ S
theorem post_bnd {α β : Type} {m : M α} {k : α → M β} {ok : β → Env → Prop} {ex : Exn → Env → Prop} (h : Post ok ex (bnd m k e)) : (∃ a e1, m e = .ok a e1 ∧ Post ok ex (k a e1)) ∨ ∃ x e1, m e = .exn x e1 ∧ ex x e1 := by
  unfold bnd Out.andThen at h
  cases z : m e with
  | ok a e1 => rw [z] at h; exact .inl ⟨a, e1, rfl, h⟩
  | exn x e1 => rw [z] at h; exact .inr ⟨x, e1, rfl, h⟩
  | bad => rw [z] at h; exact h.elim
theorem opt_of {α : Type} {o : Option α} {a : α} {e1 : Env} (h : opt o e = .ok a e1) : e1 = e ∧ o = some a := by
  cases o with
  | none => cases h
  | some b => injection h with h1 h2; exact ⟨h2.symm, by rw [h1]⟩
theorem post_opt {α β : Type} {o : Option α} {k : α → M β} {ok : β → Env → Prop} {ex : Exn → Env → Prop} (h : Post ok ex (bnd (opt o) k e)) : ∃ a, o = some a ∧ Post ok ex (k a e) := by
  cases o with
  | none => exact h.elim
  | some a => exact ⟨a, rfl, h⟩
theorem slotAt_exn {i : Nat} {ks : List PyData} {x : Exn} {e1 : Env} (h : slotAt i ks e = .exn x e1) : False := by
  have h' : bnd (slot i) (fun o => opt (getAt o ks)) e = .exn x e1 := h
  unfold bnd Out.andThen at h'
  cases z : slot i e with
  | ok o e2 =>
    rw [z] at h'
    have h' : opt (getAt o ks) e2 = .exn x e1 := h'
    cases zz : getAt o ks with
    | none => rw [zz] at h'; cases h'
    | some p => rw [zz] at h'; cases h'
  | exn x e2 => unfold slot at z; split at z <;> cases z
  | bad => rw [z] at h'; cases h'
theorem post_at {β : Type} (r : Rel K F H e σ os vs S T) {i : Nat} {ks : List PyData} {v : V} {k : OD → M β} {ok : β → Env → Prop} {ex : Exn → Env → Prop} (o : OpdR K F H σ (.at i ks) v) (h : Post ok ex (bnd (slotAt i ks) k e)) :
    ∃ p, (∃ B', Ow K F H p v B' ∧ ∀ b ∈ B', b ∈ S) ∧ slotAt i ks e = .ok p e ∧ Post ok ex (k p e) := by
  rcases post_bnd h with ⟨p, e1, h1, h2⟩ | ⟨x, e1, h1, _⟩
  · obtain ⟨rfl, o', v0, _, _, _, B, B', _, q2, q3, q4⟩ := at_of r o h1
    exact ⟨p, ⟨B', q2, fun b hb => q4 b (q3 b hb)⟩, h1, h2⟩
  · exact (slotAt_exn h1).elim
theorem see_of {β : Type} (r : Rel K F H e σ os vs S T) {p : Opd} {v : V} {k : PyData → M β} {ok : β → Env → Prop} {ex : Exn → Env → Prop} (o : OpdR K F H σ p v) (h : Post ok ex (bnd (see p) k e)) :
    ∃ d, Fz K (FS F S) H d v ∧ Post ok ex (k d e) := by
  cases p with
  | fz d => exact ⟨d, Fz.mono (fun _ z => .inl z) (fun _ _ _ z => z) d v o, h⟩
  | «at» i ks =>
    rcases post_bnd h with ⟨d, e1, h1, h2⟩ | ⟨x, e1, h1, _⟩
    · obtain ⟨p, e2, z, g⟩ := bnd_ok (m := slotAt i ks) (k := fun o => opt (frz o)) h1
      obtain ⟨rfl, o', v0, _, _, _, B, B', _, q2, q3, q4⟩ := at_of r o z
      obtain ⟨rfl, f⟩ := opt_of g
      exact ⟨d, Ow.frz (fun _ z => .inl z) p v B' d (fun b hb => .inr (q4 b (q3 b hb))) q2 f, h2⟩
    · rcases bnd_exn (m := slotAt i ks) (k := fun o => opt (frz o)) h1 with z | ⟨p, e2, z, g⟩
      · exact (slotAt_exn z).elim
      · exact (opt_exn g).elim
theorem allFz_of : ∀ {os : List OD} {ds : List PyData}, allFz os = some ds → os = ds.map .fz
  | [], ds, h => by cases h; rfl
  | o :: os, ds, h => by
    obtain ⟨d, e1, e2⟩ := Option.bind_eq_some_iff.mp (show (isFz o).bind (fun d => (allFz os).map fun ds => d :: ds) = some ds from h)
    obtain ⟨ds', e3, rfl⟩ := Option.map_eq_some_iff.mp e2
    cases o with
    | fz d' => cases e1; rw [allFz_of e3]; rfl
    | _ => cases e1
theorem shal_of {o : OD} {d : PyData} {v : V} {B : List Addr} (h : Ow K F H o v B) (s : shal o = some d) : Kp K F H d v := by
  cases o with
  | fz d' => cases s; exact Kp.of h.1
  | lst os =>
    obtain ⟨ds, e1, rfl⟩ := Option.map_eq_some_iff.mp (show (allFz os).map PyData.list = some d from s)
    obtain ⟨a, xs, S', rfl, h1, h2, rfl⟩ := h
    rw [allFz_of e1] at h2
    exact ⟨a, xs, rfl, .inl h1, (FzAll.of_fzs h2).1⟩
  | dct ks os =>
    obtain ⟨ds, e1, rfl⟩ := Option.map_eq_some_iff.mp (show (allFz os).map (fun ds => PyData.dict (ks.zip ds)) = some d from s)
    obtain ⟨a, es, S', rfl, h1, hk, h2, rfl⟩ := h
    rw [allFz_of e1] at h2
    exact ⟨a, es, rfl, .inl h1, FzKv.of hk (FzAll.of_fzs h2).1⟩
  | ins _ _ _ => cases s
theorem keep_of {β : Type} (r : Rel K F H e σ os vs S T) {p : Opd} {v : V} {k : PyData → M β} {ok : β → Env → Prop} {ex : Exn → Env → Prop} (o : OpdR K F H σ p v) (h : Post ok ex (bnd (keep p) k e)) :
    ∃ d, Kp K F H d v ∧ Post ok ex (k d e) := by
  cases p with
  | fz d => exact ⟨d, Kp.of o, h⟩
  | «at» i ks =>
    rcases post_bnd h with ⟨d, e1, h1, h2⟩ | ⟨x, e1, h1, _⟩
    · obtain ⟨p, e2, z, g⟩ := bnd_ok (m := slotAt i ks) (k := fun o => opt (shal o)) h1
      obtain ⟨rfl, o', v0, _, _, _, B, B', _, q2, q3, q4⟩ := at_of r o z
      obtain ⟨rfl, f⟩ := opt_of g
      exact ⟨d, shal_of q2 f, h2⟩
    · rcases bnd_exn (m := slotAt i ks) (k := fun o => opt (shal o)) h1 with z | ⟨p, e2, z, g⟩
      · exact (slotAt_exn z).elim
      · exact (opt_exn g).elim
theorem Rel.lenE (r : Rel K F H e σ os vs S T) : σ.length = e.length := r.sl.length
theorem setSlot_of {i : Nat} {o : OD} {u : Unit} {e1 : Env} (h : setSlot i o e = .ok u e1) : i < e.length ∧ e1 = e.set i (some o) := by
  unfold setSlot at h
  split at h
  · rename_i c
    injection h with h1 h2
    exact ⟨c, h2.symm⟩
  · cases h
theorem setSlot_exn {i : Nat} {o : OD} {x : Exn} {e1 : Env} (h : setSlot i o e = .exn x e1) : False := by
  unfold setSlot at h
  split at h <;> cases h
theorem slot_exn {i : Nat} {x : Exn} {e1 : Env} (h : slot i e = .exn x e1) : False := by
  unfold slot at h
  split at h <;> cases h
def valK (i : Nat) (ks : List PyData) : OD → M OD := fun o => bnd (opt (if ks.isEmpty then frz o else none)) fun d => bnd (setSlot i (.fz d)) fun _ => ret (OD.fz d)
/-- a slot given: frozen -/
theorem val_at {i : Nat} {ks : List PyData} {o : OD} {e1 : Env} {v : V} (r : Rel K F H e σ os vs S T) (p : OpdR K F H σ (.at i ks) v) (h : val (.at i ks) e = .ok o e1) :
    ∃ d F1 S1, o = .fz d ∧ Rel K F1 H e1 σ os vs S1 T ∧ Fz K F1 H d v ∧ Step true H F (S ++ T) H F1 (S1 ++ T) := by
  obtain ⟨o', e2, z, ha⟩ := bnd_ok (m := slot i) (k := valK i ks) h
  obtain ⟨rfl, g⟩ := slot_of z
  obtain ⟨d, e3, zz, hb⟩ := bnd_ok (m := opt (if ks.isEmpty then frz o' else none)) (k := fun d => bnd (setSlot i (.fz d)) fun _ => ret (OD.fz d)) ha
  obtain ⟨rfl, f⟩ := opt_of zz
  obtain ⟨u, e4, z3, hc⟩ := bnd_ok (m := setSlot i (.fz d)) (k := fun _ => ret (OD.fz d)) hb
  obtain ⟨_, rfl⟩ := setSlot_of z3
  injection hc with h1 h2
  subst h1 h2
  cases ks with
  | cons _ _ => cases f
  | nil =>
    obtain ⟨v', F1, S1, e4, r1, f1, s1⟩ := r.freeze g f
    obtain ⟨v0, hv, pv⟩ := p
    obtain rfl : v = v0 := pv
    rw [e4] at hv; cases hv
    exact ⟨d, F1, S1, rfl, r1, f1, s1⟩
theorem val_exn {r : Rv} {x : Exn} {e1 : Env} (h : val r e = .exn x e1) : False := by
  cases r with
  | tmp o => cases h
  | «at» i ks =>
    rcases bnd_exn (m := slot i) (k := valK i ks) h with z | ⟨o', e2, z, ha⟩
    · exact slot_exn z
    rcases bnd_exn (m := opt (if ks.isEmpty then frz o' else none)) (k := fun d => bnd (setSlot i (.fz d)) fun _ => ret (OD.fz d)) ha with z | ⟨d, e3, zz, hb⟩
    · exact opt_exn z
    rcases bnd_exn (m := setSlot i (.fz d)) (k := fun _ => ret (OD.fz d)) hb with z | ⟨d, e3, zz, hc⟩
    · exact setSlot_exn z
    · cases hc
theorem valD_at {i : Nat} {ks : List PyData} {d : PyData} {e1 : Env} {v : V} (r : Rel K F H e σ os vs S T) (p : OpdR K F H σ (.at i ks) v) (h : valD (.at i ks) e = .ok d e1) :
    ∃ F1 S1, Rel K F1 H e1 σ os vs S1 T ∧ Fz K F1 H d v ∧ Step true H F (S ++ T) H F1 (S1 ++ T) := by
  obtain ⟨o, e2, z, ha⟩ := bnd_ok (m := val (.at i ks)) (k := fun o => opt (frz o)) h
  obtain ⟨d', F1, S1, rfl, r1, f1, s1⟩ := val_at r p z
  obtain ⟨rfl, f⟩ := opt_of ha
  cases f
  exact ⟨F1, S1, r1, f1, s1⟩
theorem valD_exn {r : Rv} {x : Exn} {e1 : Env} (h : valD r e = .exn x e1) : False := by
  rcases bnd_exn (m := val r) (k := fun o => opt (frz o)) h with z | ⟨o, e2, z, ha⟩
  · exact val_exn z
  · exact opt_exn ha
theorem give_of {β : Type} (r : Rel K F H e σ os vs S T) {p : Opd} {v : V} {k : PyData → M β} {ok : β → Env → Prop} {ex : Exn → Env → Prop} (o : OpdR K F H σ p v) (h : Post ok ex (bnd (give p) k e)) :
    ∃ d e1 F1 S1, Rel K F1 H e1 σ os vs S1 T ∧ Fz K F1 H d v ∧ Step true H F (S ++ T) H F1 (S1 ++ T) ∧ Post ok ex (k d e1) := by
  cases p with
  | fz d => exact ⟨d, e, F, S, r, o, Step.refl, h⟩
  | «at» i ks =>
    rcases post_bnd h with ⟨d, e1, h1, h2⟩ | ⟨x, e1, h1, _⟩
    · obtain ⟨F1, S1, r1, f1, s1⟩ := valD_at r o h1
      exact ⟨d, e1, F1, S1, r1, f1, s1, h2⟩
    · exact (valD_exn h1).elim

/-! ## from what an expression gives -/
theorem OkO.of_step {p : Opd} {B : List Addr} (h : OkO K σ os vs T q Q H F A p e') (s : Step q' H F A H1 F1 A1) : OkO K σ os vs T q Q H F A p e' := h
theorem MR.opd {f : M Rv} (m : MR K XR W q t f) : MO K XR W q t (bnd f HW.opd) := fun e σ F H os vs S T Q r h => by
  refine m.bind r h (fun x e' z => z) (fun o e1 v H1 F1 S1 Sv r1 t1 s1 h1 => ?_) (fun i ks e1 v H1 F1 S1 r1 o1 s1 h1 => ?_)
  · obtain ⟨d, f1, h2⟩ := post_opt (show Post _ _ (bnd (opt (frz o)) (fun d => ret (Opd.fz d)) e1) from h1)
    obtain ⟨F2, r2, fz2, s2⟩ := r1.freezeTop t1 f1
    exact h2 v H1 F2 S1 r2 fz2 ((s1.trans s2).weak fun z => by rw [z]; rfl)
  · exact h1 v H1 F1 S1 r1 o1 s1
theorem MR.val {f : M Rv} (m : MR K XR W q t f) : MV K XR W q t (bnd f HW.val) := fun e σ F H os vs S T Q r h => by
  refine m.bind r h (fun x e' z => z) (fun o e1 v H1 F1 S1 Sv r1 t1 s1 h1 => ?_) (fun i ks e1 v H1 F1 S1 r1 o1 s1 h1 => ?_)
  · exact h1 v H1 F1 S1 Sv r1 t1 s1
  · cases z : HW.val (.at i ks) e1 with
    | ok o e2 =>
      rw [z] at h1
      obtain ⟨d, F2, S2, rfl, r2, f2, s2⟩ := val_at r1 o1 z
      exact h1 v H1 F2 S2 [] r2 ⟨⟨f2, rfl⟩, r2.nd, fun _ z => (nomatch z)⟩ ((s1.trans s2).weak fun z => by rw [z]; rfl)
    | exn x e2 => exact (val_exn z).elim
    | bad => rw [z] at h1; exact h1.elim
theorem MR.valD {f : M Rv} (m : MR K XR W q t f) : MD K XR W q t (bnd f HW.valD) := fun e σ F H os vs S T Q r h => by
  refine m.bind r h (fun x e' z => z) (fun o e1 v H1 F1 S1 Sv r1 t1 s1 h1 => ?_) (fun i ks e1 v H1 F1 S1 r1 o1 s1 h1 => ?_)
  · have h1 : Post _ _ (opt (frz o) e1) := h1
    cases f : frz o with
    | none => rw [f] at h1; exact h1.elim
    | some d =>
      rw [f] at h1
      obtain ⟨F2, r2, fz2, s2⟩ := r1.freezeTop t1 f
      exact h1 v H1 F2 S1 r2 fz2 ((s1.trans s2).weak fun z => by rw [z]; rfl)
  · cases z : HW.valD (.at i ks) e1 with
    | ok o e2 =>
      rw [z] at h1
      obtain ⟨F2, S2, r2, f2, s2⟩ := valD_at r1 o1 z
      exact h1 v H1 F2 S2 r2 f2 ((s1.trans s2).weak fun z => by rw [z]; rfl)
    | exn x e2 => exact (valD_exn z).elim
    | bad => rw [z] at h1; exact h1.elim
/-- an operand's value through a piece: it stays, if it is frozen, or a slot's own, or nothing that stood is changed -/
theorem OpdR.stay (r : Rel K F H e σ os vs S T) (s : Step q H F (S ++ T) H1 F1 A1) {p : Opd} {v : V} (c : (∀ i ks, p = .at i ks → ks = []) ∨ q = true) (o : OpdR K F H σ p v) : OpdR K F1 H1 σ p v := by
  cases p with
  | fz d => exact r.fz s o
  | «at» i ks =>
    obtain ⟨v0, hv, pv⟩ := o
    refine ⟨v0, hv, ?_⟩
    rcases c with c | c
    · rw [c i ks rfl] at pv ⊢
      exact pv
    · subst c
      have key : ∀ (ks : List PyData) (v0 : V), PathV H v0 ks v → PathV H1 v0 ks v := by
        intro ks
        induction ks with
        | nil => intro v0 z; exact z
        | cons k ks ih =>
          rintro v0 ⟨a, v', e1, kv, z⟩
          exact ⟨a, v', e1, kv.imp (fun ⟨xs, i, z1, z2⟩ => ⟨xs, i, s.keep a _ z1 (.inl rfl), z2⟩) (fun ⟨es, y, z1, z2⟩ => ⟨es, y, s.keep a _ z1 (.inl rfl), z2⟩), ih v' z⟩
      exact key ks v0 pv
end
end HW
end

section
set_option Elab.async false
set_option linter.all false
set_option maxRecDepth 100000
set_option maxHeartbeats 1000000
/-! # Expressions: what the interpreter says, the machine does -/
namespace HW
open PySem PySem.Spec PyProof.Rows L2
def Shal (f : M Opd) : Prop := ∀ e p e1, f e = .ok p e1 → ∀ i ks, p = .at i ks → ks = []
section
variable {K : PySem.W.Frag} {XR : XRel} {W : WX} {q qa qb : Bool} {F F' F1 : Addr → Prop} {H H' H1 : Hp} {e e' : Env} {σ : L2.St} {os : List OD} {vs : List V} {S S' T A A1 Sv : List Addr} {Q : VK} {t ta tb : TE}
theorem MO.two {α : Type} {fa fb : M Opd} {k : Opd → Opd → M α} {G : V → V → Hp → Prop} {ok : α → Env → Prop} {ex : Exn → Env → Prop} (ma : MO K XR W qa ta fa) (mb : MO K XR W qb tb fb) (hd : Shal fa ∨ qb = true) (r : Rel K F H e σ os vs S T)
    (h : Post ok ex (bnd fa (fun p => bnd fb fun p' => k p p') e)) (hx : ∀ x e', ex x e' → PostX K XR W σ os vs T H F (S ++ T) x e')
    (c : ∀ p p' e2 x y H2 F2 S2, Rel K F2 H2 e2 σ os vs S2 T → OpdR K F2 H2 σ p x → OpdR K F2 H2 σ p' y → Step (qa && qb) H F (S ++ T) H2 F2 (S2 ++ T) → Post ok ex (k p p' e2) → G x y H2) : ta σ H fun x H1 => tb σ H1 fun y H2 => G x y H2 := by
  refine ma.bind r h hx fun p e1 x H1 F1 S1 z r1 o1 s1 h1 => ?_
  refine mb.bind r1 h1 (fun x e' hx' => (hx x e' hx').after s1) fun p' e2 y H2 F2 S2 z2 r2 o2 s2 h2 => ?_
  exact c p p' e2 x y H2 F2 S2 r2 (o1.stay r1 s2 (hd.imp (fun z' => z' _ _ _ z) id)) o2 (s1.trans s2) h2
theorem fz_top {d : PyData} {v : V} (r : Rel K F H e σ os vs S T) (h : Fz K F H d v) : Top K F H (.fz d) v S [] T := ⟨⟨h, rfl⟩, r.nd, fun _ z => (nomatch z)⟩
theorem scal_fz {d : PyData} {v : V} (f : flat d = true) (h : Fz K F H d v) : ∀ F' H', Fz K F' H' d v := fun F' H' => by
  cases d with
  | none => exact h
  | bool b => exact h
  | int i => exact h
  | str x => exact h
  | _ => cases f
end
section
variable (mus : Nat → Option Nat) (c : CallF) (XR : XRel) (W : WX) (X : Cx)
/-- the machine's expression meets the small one -/
def SE (m : E) (e : Expr) : Prop := ∃ t, PE X e t ∧ MR X.K XR W (quiet mus m) t (ev mus c m)
end
section
variable {mus : Nat → Option Nat} {c : CallF} {XR : XRel} {W : WX} {X : Cx} {m a b d i : E} {ea eb ec ed : Expr} {pos : Pos} {k : Nat}
/-- it gives a tree of its own -/
def Tmp (m : M Rv) : Prop := ∀ e r e1, m e = .ok r e1 → ∃ o, r = .tmp o
theorem tmp_bnd {α : Type} {m : M α} {k : α → M Rv} (h : ∀ x, Tmp (k x)) : Tmp (bnd m k) := fun e r e1 z => by
  obtain ⟨x, e2, _, g⟩ := bnd_ok z
  exact h x e2 r e1 g
theorem tmp_ret {o : OD} : Tmp (ret (.tmp o)) := fun e r e1 z => by
  injection z with z1 _
  exact ⟨o, z1.symm⟩
theorem tmp_bad : Tmp bad := fun e r e1 z => by cases z
theorem tmp_ite {k : Bool} {f g : M Rv} (h : Tmp f) (h' : Tmp g) : Tmp (if k = true then f else g) := by
  split
  · exact h
  · exact h'
theorem tmp_ite' {P : Prop} [Decidable P] {f g : M Rv} (h : Tmp f) (h' : Tmp g) : Tmp (if P then f else g) := by
  split
  · exact h
  · exact h'
theorem shal_of_shallow : ∀ (m : E) (e : Env) (i : Nat) (ks : List PyData) (e1 : Env), shallow m = true → ev mus c m e = .ok (.at i ks) e1 → ks = []
  | .var j, e, i, ks, e1, _, h => by
    obtain ⟨o, e2, _, g⟩ := bnd_ok (m := slot j) (k := varK j) h
    cases o <;> (injection g with g1 _; cases g1) <;> rfl
  | .ite c' a b, e, i, ks, e1, s, h => by
    rw [shallow, Bool.and_eq_true] at s
    obtain ⟨p, e2, _, h1⟩ := bnd_ok (m := bnd (ev mus c c') opd) (k := fun p => bnd (see p) fun x => bnd (opt (truD x)) fun k => if k then ev mus c a else ev mus c b) h
    obtain ⟨x, e3, _, h2⟩ := bnd_ok (m := see p) (k := fun x => bnd (opt (truD x)) fun k => if k then ev mus c a else ev mus c b) h1
    obtain ⟨y, e4, _, h3⟩ := bnd_ok (m := opt (truD x)) (k := fun k => if k then ev mus c a else ev mus c b) h2
    cases y with
    | true => exact shal_of_shallow a e4 i ks e1 s.1 h3
    | false => exact shal_of_shallow b e4 i ks e1 s.2 h3
  | .and a b, e, i, ks, e1, s, h => by
    obtain ⟨p, e2, _, h1⟩ := bnd_ok (m := bnd (ev mus c a) opd) h
    obtain ⟨x, e3, _, h2⟩ := bnd_ok (m := see p) h1
    unfold boolK at h2
    split at h2
    · exact shal_of_shallow b e3 i ks e1 s h2
    · injection h2 with h3; cases h3
    · cases h2
  | .or a b, e, i, ks, e1, s, h => by
    obtain ⟨p, e2, _, h1⟩ := bnd_ok (m := bnd (ev mus c a) opd) h
    obtain ⟨x, e3, _, h2⟩ := bnd_ok (m := see p) h1
    unfold boolK at h2
    split at h2
    · injection h2 with h3; cases h3
    · exact shal_of_shallow b e3 i ks e1 s h2
    · cases h2
  | .idx _ _, _, _, _, _, s, _ => by cases s
  | .lit _, _, _, _, _, _, h => by injection h with h1; cases h1
  | .glb _ _, _, _, _, _, _, h => by injection h with h1; cases h1
  | .bin _ _ _, e, i, ks, e1, _, h => by
    obtain ⟨o, z⟩ := (tmp_bnd fun _ => tmp_bnd fun _ => tmp_bnd fun _ => tmp_bnd fun _ => tmp_bnd fun _ => tmp_ret : Tmp _) e _ e1 h; cases z
  | .neg _, e, i, ks, e1, _, h => by
    obtain ⟨o, z⟩ := (tmp_bnd fun _ => tmp_bnd fun x => by cases x <;> first | exact tmp_ret | exact tmp_bad : Tmp _) e _ e1 h; cases z
  | .cmp _ _ _, e, i, ks, e1, _, h => by
    obtain ⟨o, z⟩ := (tmp_bnd fun _ => tmp_bnd fun _ => tmp_bnd fun _ => tmp_bnd fun _ => tmp_bnd fun _ => tmp_ret : Tmp _) e _ e1 h; cases z
  | .cmp2 _ _ _ _ _, e, i, ks, e1, _, h => by
    obtain ⟨o, z⟩ := (tmp_bnd fun _ => tmp_bnd fun _ => tmp_bnd fun _ => tmp_bnd fun _ => tmp_bnd fun _ => tmp_ite (tmp_bnd fun _ => tmp_bnd fun _ => tmp_bnd fun _ => tmp_bnd fun _ => tmp_ret) tmp_ret : Tmp _) e _ e1 h; cases z
  | .not _, e, i, ks, e1, _, h => by
    obtain ⟨o, z⟩ := (tmp_bnd fun _ => tmp_bnd fun x => by cases x <;> first | exact tmp_ret | exact tmp_bad : Tmp _) e _ e1 h; cases z
  | .tup _, e, i, ks, e1, _, h => by
    obtain ⟨o, z⟩ := (tmp_bnd fun _ => tmp_bnd fun _ => tmp_ite' tmp_ret tmp_bad : Tmp _) e _ e1 h; cases z
  | .lst _, e, i, ks, e1, _, h => by
    obtain ⟨o, z⟩ := (tmp_bnd fun _ => tmp_ite' tmp_ret tmp_bad : Tmp _) e _ e1 h; cases z
  | .dct _, e, i, ks, e1, _, h => by
    obtain ⟨o, z⟩ := (tmp_bnd fun _ => tmp_ret : Tmp _) e _ e1 h; cases z
  | .slc _ _ _, e, i, ks, e1, _, h => by
    obtain ⟨o, z⟩ := (tmp_bnd fun _ => tmp_bnd fun _ => tmp_bnd fun _ => tmp_bnd fun _ => tmp_bnd fun _ => tmp_ret : Tmp _) e _ e1 h; cases z
  | .rev _, e, i, ks, e1, _, h => by
    obtain ⟨o, z⟩ := (tmp_bnd fun _ => tmp_bnd fun x => by cases x <;> first | exact tmp_ret | exact tmp_bad : Tmp _) e _ e1 h; cases z
  | .lrg _ _, e, i, ks, e1, _, h => by
    obtain ⟨o, z⟩ := (tmp_bnd fun _ => tmp_bnd fun _ => tmp_bnd fun _ => tmp_ret : Tmp _) e _ e1 h; cases z
  | .lrg2 _ _ _, e, i, ks, e1, _, h => by
    obtain ⟨o, z⟩ := (tmp_bnd fun _ => tmp_bnd fun _ => tmp_bnd fun _ => tmp_bnd fun _ => tmp_bnd fun _ => tmp_ret : Tmp _) e _ e1 h; cases z
  | .call _ _, e, i, ks, e1, _, h => by
    obtain ⟨o, z⟩ := (tmp_bnd fun _ => tmp_bnd fun _ => tmp_ret : Tmp _) e _ e1 h; cases z
  | .kcall _ _ _, e, i, ks, e1, _, h => by
    obtain ⟨o, z⟩ := (tmp_bnd fun _ => tmp_bnd fun _ => tmp_bnd fun _ => tmp_ret : Tmp _) e _ e1 h; cases z
  | .bi _ _, e, i, ks, e1, _, h => by
    obtain ⟨o, z⟩ := (tmp_bnd fun _ => tmp_bnd fun _ => tmp_bnd fun _ => tmp_ret : Tmp _) e _ e1 h; cases z
  | .isi _ _, e, i, ks, e1, _, h => by
    obtain ⟨o, z⟩ := (tmp_bnd fun _ => tmp_bnd fun _ => tmp_ret : Tmp _) e _ e1 h; cases z
  | .comp t s cs x own, e, i, ks, e1, _, h => by
    obtain ⟨ds, e2, _, g⟩ := bnd_ok (m := evi mus c s) h
    unfold compK at g
    split at g
    · injection g with g1; cases g1
    · cases g
  | .meth _ _ _, e, i, ks, e1, _, h => by
    obtain ⟨o, z⟩ := (tmp_bnd fun _ => tmp_bnd fun _ => tmp_bnd fun _ => tmp_bnd fun _ => by
      split
      · exact tmp_bnd fun _ => tmp_bnd fun _ => tmp_bnd fun _ => tmp_bnd fun _ => tmp_bnd fun _ => tmp_ret
      · exact tmp_bad : Tmp _) e _ e1 h
    cases z
theorem Shal.of (h : shallow m = true) : Shal (bnd (ev mus c m) opd) := fun e p e1 z i ks ep => by
  subst ep
  obtain ⟨r, e2, h1, h2⟩ := bnd_ok z
  cases r with
  | tmp o =>
    obtain ⟨d, e3, _, g⟩ := bnd_ok (m := opt (frz o)) (k := fun d => ret (Opd.fz d)) h2
    injection g with g1; cases g1
  | «at» j ks' =>
    injection h2 with g1
    cases g1
    exact shal_of_shallow m e _ _ _ h h1

/-! ## names and constants -/
theorem se_var {i : Nat} {x : Str} (hN : X.N[i]? = some x) (hv : Vis X.env.scope x) (hd : (x == ("__debug__" : Str)) = false) (hcd : (x == ("__classdict__" : Str)) = false) : SE mus c XR W X (.var i) (.Name x pos) := by
  refine ⟨_, pe_var hN hv hd hcd, fun e σ F H os vs S T Q r h => ?_⟩
  rcases post_bnd (m := slot i) h with ⟨o, e1, h1, h2⟩ | ⟨x, e1, h1, _⟩
  · obtain ⟨rfl, g⟩ := slot_of h1
    obtain ⟨v, A, B, C, e2, rfl, e3, _⟩ := r.sl.split g
    refine ⟨v, e2, ?_⟩
    have own : OkO X.K σ os vs T (quiet mus (.var i)) Q H F ((A ++ (B ++ C)) ++ T) (.at i []) e1 → Q v H := fun h3 => h3 v H F _ r ⟨v, e2, rfl⟩ Step.refl
    cases o with
    | fz d => exact h2 v H F _ [] r ⟨⟨e3.1, rfl⟩, r.nd, fun _ z => (nomatch z)⟩ Step.refl
    | lst _ => exact own h2
    | dct _ _ => exact own h2
    | ins _ _ _ => exact own h2
  · exact (slot_exn h1).elim
theorem se_const {v : V} {dd : PyData} {e : Expr} (he : PE X e (tC v)) (hf : ∀ F H, Fz X.K F H dd v) (m : E) (hm : ev mus c m = ret (.tmp (.fz dd))) (hq : quiet mus m = true) : SE mus c XR W X m e := by
  refine ⟨_, he, fun e σ F H os vs S T Q r h => ?_⟩
  rw [hm] at h
  exact h v H F S [] r ⟨⟨hf F H, rfl⟩, r.nd, fun _ z => (nomatch z)⟩ Step.refl
theorem se_int {n : Int} {j : Nat} : SE mus c XR W X (.lit (.int n)) (.Constant (.int n) j pos) := se_const (v := .int n) (dd := .int n) pe_int (fun _ _ => rfl) _ rfl rfl
theorem se_bool {n : Bool} {j : Nat} : SE mus c XR W X (.lit (.bool n)) (.Constant (.bool n) j pos) := se_const (v := .bl n) (dd := .bool n) pe_bl (fun _ _ => rfl) _ rfl rfl
theorem se_none {j : Nat} : SE mus c XR W X (.lit .none) (.Constant .none j pos) := se_const (v := .non) (dd := .none) pe_non (fun _ _ => rfl) _ rfl rfl
theorem se_str {n : Str} {j : Nat} : SE mus c XR W X (.lit (.str n)) (.Constant (.str n) j pos) := se_const (v := .str n) (dd := .str n) pe_str (fun _ _ => rfl) _ rfl rfl
theorem se_glb {x : Str} {v : V} {u : Value} {dd : PyData} {g : Nat} (hg : Gl X x) (hm : X.mg x = some u) (r : RelV v u) (hf : ∀ F H, Fz X.K F H dd v) (hd : (x == ("__debug__" : Str)) = false) : SE mus c XR W X (.glb g dd) (.Name x pos) := se_const (v := v) (pe_glob hg hm r hd) hf _ rfl rfl

/-! ## operators -/
theorem se_bin (o : BOp) (ha : SE mus c XR W X a ea) (hb : SE mus c XR W X b eb) (hd : shallow a = true ∨ quiet mus b = true) : SE mus c XR W X (.bin o a b) (.BinOp ea (bop o) eb pos) := by
  obtain ⟨ta, pa, ma⟩ := ha
  obtain ⟨tb, pb, mb⟩ := hb
  refine ⟨_, pe_op (op_bin o) pa pb, fun e σ F H os vs S T Q r h => ?_⟩
  refine MO.two ma.opd mb.opd (hd.imp Shal.of id) r h (fun _ _ z => z) fun p p' e2 x y H2 F2 S2 r2 o1 o2 s2 h2 => ?_
  obtain ⟨d1, k1, h3⟩ := keep_of r2 o1 h2
  obtain ⟨d2, k2, h4⟩ := keep_of r2 o2 h3
  obtain ⟨z, hz, h5⟩ := post_opt h4
  refine ⟨F2, d1, d2, z, k1, k2, r2.tr, hz, fun v H3 F3 Sv md => ?_⟩
  obtain ⟨r3, t3, s3⟩ := r2.made md
  exact h5 v H3 F3 S2 Sv r3 t3 ((s2.trans s3).weak fun z => by rw [show quiet mus (.bin o a b) = (quiet mus a && quiet mus b) from rfl] at z; rw [z]; rfl)
theorem se_cmp (o : COp) (hu : X.A.units + 65 < cLine) (ha : SE mus c XR W X a ea) (hb : SE mus c XR W X b eb) (hd : shallow a = true ∨ quiet mus b = true) (hm : behindInMarks (cop o) eb = false) : SE mus c XR W X (.cmp o a b) (.Compare ea [cop o] [eb] pos) := by
  obtain ⟨ta, pa, ma⟩ := ha
  obtain ⟨tb, pb, mb⟩ := hb
  refine ⟨_, pe_cmpR (op_cmp hu o) pa pb hm, fun e σ F H os vs S T Q r h => ?_⟩
  refine MO.two ma.opd mb.opd (hd.imp Shal.of id) r h (fun _ _ z => z) fun p p' e2 x y H2 F2 S2 r2 o1 o2 s2 h2 => ?_
  obtain ⟨d1, k1, h3⟩ := see_of r2 o1 h2
  obtain ⟨d2, k2, h4⟩ := see_of r2 o2 h3
  obtain ⟨z, hz, h5⟩ := post_opt h4
  exact ⟨_, d1, d2, z, k1, k2, hz, h5 _ H2 F2 S2 [] r2 (fz_top r2 rfl) (s2.weak fun z => z)⟩
end
end HW
end

section
set_option Elab.async false
set_option linter.all false
set_option maxRecDepth 100000
set_option maxHeartbeats 1000000
/-! # Expressions, further: tests, choices, displays, items, cuts, built-ins -/
namespace HW
open PySem PySem.Spec PyProof.Rows L2
section
variable (K : PySem.W.Frag) (XR : XRel) (W : WX) (q : Bool)
/-- a test -/
def MT (t : TT) (f : M Bool) : Prop := ∀ e σ F H os vs S T (Q : Bool → Hp → Prop), Rel K F H e σ os vs S T →
  Post (fun k e' => ∀ H' F' S', Rel K F' H' e' σ os vs S' T → Step q H F (S ++ T) H' F' (S' ++ T) → Q k H') (PostX K XR W σ os vs T H F (S ++ T)) (f e) → t σ H Q
end
section
variable (mus : Nat → Option Nat) (c : CallF) (XR : XRel) (W : WX) (X : Cx)
def ST (m : E) (e : Expr) : Prop := ∃ t, PT X e t ∧ MT X.K XR W (quiet mus m) t (test mus c m)
def SW (m : E) (e : Expr) : Prop := ∃ t, PW X e t ∧ MT X.K XR W (quiet mus m) t (test mus c m)
/-- a comparison: as a value and as a test -/
def SC (m : E) (e : Expr) : Prop := ∃ t, PE X e t ∧ PT X e (tTest t) ∧ MR X.K XR W (quiet mus m) t (ev mus c m) ∧ ∀ e r e', ev mus c m e = .ok r e' → ∃ k, r = .tmp (.fz (.bool k))
end
section
variable {mus : Nat → Option Nat} {c : CallF} {XR : XRel} {W : WX} {X : Cx} {m a b d i : E} {ea eb ec ed : Expr} {pos : Pos} {k : Nat}
variable {K : PySem.W.Frag} {q qa qb : Bool} {F F' F1 : Addr → Prop} {H H' H1 : Hp} {e e' : Env} {σ : L2.St} {os : List OD} {vs : List V} {S S' T A A1 Sv : List Addr} {t ta tb : TE}
theorem SW.st (h : SW mus c XR W X m ea) : ST mus c XR W X m ea := ⟨_, h.choose_spec.1.pt, h.choose_spec.2⟩
theorem SC.se (h : SC mus c XR W X m ea) : SE mus c XR W X m ea := by
  obtain ⟨t, p, _, m, _⟩ := h
  exact ⟨t, p, m⟩
theorem SC.st (h : SC mus c XR W X m ea) : ST mus c XR W X m ea := by
  obtain ⟨t, _, p, mm, hb⟩ := h
  refine ⟨_, p, fun e σ F H os vs S T Q r h => ?_⟩
  refine mm e σ F H os vs S T _ r ?_
  cases z : ev mus c m e with
  | ok rv e1 =>
    obtain ⟨k, rfl⟩ := hb e rv e1 z
    have z' : test mus c m e = .ok k e1 := by
      show bnd (bnd (ev mus c m) opd) (fun p => bnd (see p) fun x => opt (truD x)) e = _
      unfold bnd Out.andThen
      rw [z]
      rfl
    rw [z'] at h
    intro v H1 F1 S1 Sv r1 t1 s1
    obtain ⟨h1, rfl⟩ := t1.ow
    exact ⟨k, h1, h H1 F1 S1 r1 s1⟩
  | exn x e1 =>
    have z' : test mus c m e = .exn x e1 := by
      show bnd (bnd (ev mus c m) opd) (fun p => bnd (see p) fun x => opt (truD x)) e = _
      unfold bnd Out.andThen
      rw [z]
    rw [z'] at h
    exact h
  | bad =>
    have z' : test mus c m e = .bad := by
      show bnd (bnd (ev mus c m) opd) (fun p => bnd (see p) fun x => opt (truD x)) e = _
      unfold bnd Out.andThen
      rw [z]
    rw [z'] at h
    exact h
/-- any expression's truth -/
theorem st_val (h : SE mus c XR W X m ea) (he : ∀ whole, isTrue ea X.env whole = (do let v ← whole; standAt ea.pos; holding [v] (truthy v))) : ST mus c XR W X m ea := by
  obtain ⟨t, p, mm⟩ := h
  refine ⟨_, pt_truth p he, fun e σ F H os vs S T Q r h => ?_⟩
  refine mm.opd.bind r h (fun _ _ z => z) fun p e1 v H1 F1 S1 z r1 o1 s1 h1 => ?_
  obtain ⟨dd, fz, h2⟩ := see_of r1 o1 h1
  cases tz : truD dd with
  | none => rw [tz] at h2; exact h2.elim
  | some k =>
    rw [tz] at h2
    exact ⟨k, tru_v fz tz, h2 H1 F1 S1 r1 s1⟩
theorem MT.bind {α : Type} {f : M Bool} {g : Bool → M α} {G : Bool → Hp → Prop} {t : TT} {ok : α → Env → Prop} {ex : Exn → Env → Prop} (m : MT K XR W q t f) (r : Rel K F H e σ os vs S T) (h : Post ok ex (bnd f g e)) (hx : ∀ x e', ex x e' → PostX K XR W σ os vs T H F (S ++ T) x e')
    (c : ∀ k e1 H1 F1 S1, Rel K F1 H1 e1 σ os vs S1 T → Step q H F (S ++ T) H1 F1 (S1 ++ T) → Post ok ex (g k e1) → G k H1) : t σ H G := by
  refine m e σ F H os vs S T G r ?_
  unfold bnd Out.andThen at h
  cases z : f e with
  | ok p e1 => rw [z] at h; exact fun H1 F1 S1 r1 s1 => c p e1 H1 F1 S1 r1 s1 h
  | exn x e1 => rw [z] at h; exact hx x e1 h
  | bad => rw [z] at h; exact h
theorem se_neg (ha : SE mus c XR W X a ea) : SE mus c XR W X (.neg a) (.UnaryOp .USub ea pos) := by
  obtain ⟨ta, pa, ma⟩ := ha
  refine ⟨_, pe_un un_neg pa, fun e σ F H os vs S T Q r h => ?_⟩
  refine ma.opd.bind r h (fun _ _ z => z) fun p e1 v H1 F1 S1 z r1 o1 s1 h1 => ?_
  obtain ⟨dd, fz, h2⟩ := see_of r1 o1 h1
  cases dd with
  | int n => exact ⟨n, fz, h2 _ H1 F1 S1 [] r1 (fz_top r1 rfl) s1⟩
  | _ => exact h2.elim
theorem sc_cmp (o : COp) (hu : X.A.units + 65 < cLine) (ha : SE mus c XR W X a ea) (hb : SE mus c XR W X b eb) (hd : shallow a = true ∨ quiet mus b = true) (hm : behindInMarks (cop o) eb = false) : SC mus c XR W X (.cmp o a b) (.Compare ea [cop o] [eb] pos) := by
  obtain ⟨ta, pa, ma⟩ := ha
  obtain ⟨tb, pb, mb⟩ := hb
  refine ⟨_, pe_cmpR (op_cmp hu o) pa pb hm, pt_cmpR (op_cmp hu o) pa pb hm, fun e σ F H os vs S T Q r h => ?_, fun e r e' h => ?_⟩
  · refine MO.two ma.opd mb.opd (hd.imp Shal.of id) r h (fun _ _ z => z) fun p p' e2 x y H2 F2 S2 r2 o1 o2 s2 h2 => ?_
    obtain ⟨d1, k1, h3⟩ := see_of r2 o1 h2
    obtain ⟨d2, k2, h4⟩ := see_of r2 o2 h3
    obtain ⟨z, hz, h5⟩ := post_opt h4
    exact ⟨_, d1, d2, z, k1, k2, hz, h5 _ H2 F2 S2 [] r2 (fz_top r2 rfl) (s2.weak fun z => z)⟩
  · obtain ⟨_, _, _, h1⟩ := bnd_ok (m := bnd (ev mus c a) opd) h
    obtain ⟨_, _, _, h2⟩ := bnd_ok (m := bnd (ev mus c b) opd) h1
    obtain ⟨x, _, _, h3⟩ := bnd_ok h2
    obtain ⟨y, _, _, h4⟩ := bnd_ok h3
    obtain ⟨z, _, _, h5⟩ := bnd_ok h4
    injection h5 with h6 _
    exact ⟨z, h6.symm⟩
/-- a < b < c -/
theorem sc_cmp2 (o o' : COp) (hu : X.A.units + 65 < cLine) (ha : SE mus c XR W X a ea) (hb : SE mus c XR W X b eb) (hd' : SE mus c XR W X d ed) (hd : shallow a = true ∨ quiet mus b = true) (hs : shallow b = true ∨ quiet mus d = true) (hm : lastMarks [cop o, cop o'] [eb, ed] = false) :
    SC mus c XR W X (.cmp2 o o' a b d) (.Compare ea [cop o, cop o'] [eb, ed] pos) := by
  obtain ⟨ta, pa, ma⟩ := ha
  obtain ⟨tb, pb, mb⟩ := hb
  obtain ⟨td, pd, md⟩ := hd'
  refine ⟨_, pe_chain (op_cmp hu o) (op_cmp hu o') pa pb pd hm, pt_chain (op_cmp hu o) (op_cmp hu o') pa pb pd hm, fun e σ F H os vs S T Q r h => ?_, fun e r e' h => ?_⟩
  · refine ma.opd.bind r h (fun _ _ z => z) fun p e1 x H1 F1 S1 z r1 o1 s1 h1 => ?_
    refine mb.opd.bind r1 h1 (fun x e' hx => PostX.after hx s1) fun p' e2 y H2 F2 S2 z2 r2 o2 s2 h2 => ?_
    have o1' := o1.stay r1 s2 (hd.imp (fun hs' => Shal.of hs' _ _ _ z) id)
    obtain ⟨d1, k1, h3⟩ := see_of r2 o1' h2
    obtain ⟨d2, k2, h4⟩ := see_of r2 o2 h3
    obtain ⟨b1, hz, h5⟩ := post_opt h4
    refine ⟨_, d1, d2, b1, k1, k2, hz, b1, rfl, ?_⟩
    cases b1 with
    | false =>
      rw [if_neg Bool.false_ne_true] at h5 ⊢
      exact h5 _ H2 F2 S2 [] r2 (fz_top r2 rfl) ((s1.trans s2).weak fun z => by
        rw [show quiet mus (.cmp2 o o' a b d) = (quiet mus a && (quiet mus b && quiet mus d)) from rfl] at z
        simp only [Bool.and_eq_true] at z ⊢
        exact ⟨z.1, z.2.1⟩)
    | true =>
      rw [if_pos rfl] at h5 ⊢
      refine md.opd.bind r2 h5 (fun x e' hx => (PostX.after hx s1).after s2) fun p3 e3 w H3 F3 S3 z3 r3 o3 s3 h6 => ?_
      have o2' := o2.stay r2 s3 (hs.imp (fun hs' => Shal.of hs' _ _ _ z2) id)
      obtain ⟨d3, k3, h7⟩ := see_of r3 o2' h6
      obtain ⟨d4, k4, h8⟩ := see_of r3 o3 h7
      obtain ⟨b2, hz2, h9⟩ := post_opt h8
      exact ⟨_, d3, d4, b2, k3, k4, hz2, h9 _ H3 F3 S3 [] r3 (fz_top r3 rfl) (((s1.trans s2).trans s3).weak fun z => by
        rw [show quiet mus (.cmp2 o o' a b d) = (quiet mus a && (quiet mus b && quiet mus d)) from rfl] at z
        simp only [Bool.and_eq_true] at z ⊢
        exact ⟨⟨z.1, z.2.1⟩, z.2.2⟩)⟩
  · obtain ⟨_, _, _, h1⟩ := bnd_ok (m := bnd (ev mus c a) opd) h
    obtain ⟨_, _, _, h2⟩ := bnd_ok (m := bnd (ev mus c b) opd) h1
    obtain ⟨x, _, _, h3⟩ := bnd_ok h2
    obtain ⟨y, _, _, h4⟩ := bnd_ok h3
    obtain ⟨z, _, _, h5⟩ := bnd_ok h4
    cases z with
    | false =>
      rw [if_neg Bool.false_ne_true] at h5
      injection h5 with h6 _
      exact ⟨false, h6.symm⟩
    | true =>
      rw [if_pos rfl] at h5
      obtain ⟨_, _, _, h6⟩ := bnd_ok (m := bnd (ev mus c d) opd) h5
      obtain ⟨_, _, _, h7⟩ := bnd_ok h6
      obtain ⟨_, _, _, h8⟩ := bnd_ok h7
      obtain ⟨z, _, _, h9⟩ := bnd_ok h8
      injection h9 with h10 _
      exact ⟨z, h10.symm⟩
/-- and, or, not: values -/
theorem se_one {op : PySem.BoolOp} (h : SE mus c XR W X m ea) : SE mus c XR W X m (.BoolOp op [ea] pos) := by
  obtain ⟨t, p, mm⟩ := h
  exact ⟨t, pe_one p, mm⟩
theorem boolK_of {y n : M Rv} {x : PyData} {ok : Rv → Env → Prop} {ex : Exn → Env → Prop} (h : Post ok ex (boolK y n x e)) : ∃ k, x = .bool k ∧ Post ok ex ((if k = true then y else n) e) := by
  unfold boolK at h
  split at h
  · exact ⟨true, rfl, h⟩
  · exact ⟨false, rfl, h⟩
  · exact h.elim
theorem se_and {rest : List Expr} (ha : SE mus c XR W X a ea) (hb : SE mus c XR W X b (.BoolOp .And (eb :: rest) pos)) : SE mus c XR W X (.and a b) (.BoolOp .And (ea :: eb :: rest) pos) := by
  obtain ⟨ta, pa, ma⟩ := ha
  obtain ⟨tb, pb, mb⟩ := hb
  refine ⟨_, pe_and pa pb, fun e σ F H os vs S T Q r h => ?_⟩
  refine ma.opd.bind r h (fun _ _ z => z) fun p e1 v H1 F1 S1 z r1 o1 s1 h1 => ?_
  obtain ⟨dd, fz, h2⟩ := see_of r1 o1 h1
  obtain ⟨k, rfl, h3⟩ := boolK_of h2
  refine ⟨k, fz, ?_⟩
  cases k with
  | true =>
    rw [if_pos rfl] at h3 ⊢
    refine mb e1 σ F1 H1 os vs S1 T Q r1 ?_
    cases z2 : ev mus c b e1 with
    | ok rv e2 =>
      rw [z2] at h3
      cases rv with
      | tmp o => exact fun v H' F' S' Sv r2 t2 s2 => h3 v H' F' S' Sv r2 t2 (s1.trans s2)
      | «at» i ks => exact fun v H' F' S' r2 o2 s2 => h3 v H' F' S' r2 o2 (s1.trans s2)
    | exn x e2 => rw [z2] at h3; exact PostX.after h3 s1
    | bad => rw [z2] at h3; exact h3
  | false =>
    rw [if_neg Bool.false_ne_true] at h3 ⊢
    exact h3 _ H1 F1 S1 [] r1 (fz_top r1 rfl) (s1.weak fun z => by
      rw [show quiet mus (.and a b) = (quiet mus a && quiet mus b) from rfl, Bool.and_eq_true] at z
      exact z.1)
theorem se_or {rest : List Expr} (ha : SE mus c XR W X a ea) (hb : SE mus c XR W X b (.BoolOp .Or (eb :: rest) pos)) : SE mus c XR W X (.or a b) (.BoolOp .Or (ea :: eb :: rest) pos) := by
  obtain ⟨ta, pa, ma⟩ := ha
  obtain ⟨tb, pb, mb⟩ := hb
  refine ⟨_, pe_or pa pb, fun e σ F H os vs S T Q r h => ?_⟩
  refine ma.opd.bind r h (fun _ _ z => z) fun p e1 v H1 F1 S1 z r1 o1 s1 h1 => ?_
  obtain ⟨dd, fz, h2⟩ := see_of r1 o1 h1
  obtain ⟨k, rfl, h3⟩ := boolK_of h2
  refine ⟨k, fz, ?_⟩
  cases k with
  | false =>
    rw [if_neg Bool.false_ne_true] at h3 ⊢
    refine mb e1 σ F1 H1 os vs S1 T Q r1 ?_
    cases z2 : ev mus c b e1 with
    | ok rv e2 =>
      rw [z2] at h3
      cases rv with
      | tmp o => exact fun v H' F' S' Sv r2 t2 s2 => h3 v H' F' S' Sv r2 t2 (s1.trans s2)
      | «at» i ks => exact fun v H' F' S' r2 o2 s2 => h3 v H' F' S' r2 o2 (s1.trans s2)
    | exn x e2 => rw [z2] at h3; exact PostX.after h3 s1
    | bad => rw [z2] at h3; exact h3
  | true =>
    rw [if_pos rfl] at h3 ⊢
    exact h3 _ H1 F1 S1 [] r1 (fz_top r1 rfl) (s1.weak fun z => by
      rw [show quiet mus (.or a b) = (quiet mus a && quiet mus b) from rfl, Bool.and_eq_true] at z
      exact z.1)
theorem se_not (ha : SE mus c XR W X a ea) : SE mus c XR W X (.not a) (.UnaryOp .Not ea pos) := by
  obtain ⟨ta, pa, ma⟩ := ha
  refine ⟨_, pe_not pa, fun e σ F H os vs S T Q r h => ?_⟩
  refine ma.opd.bind r h (fun _ _ z => z) fun p e1 v H1 F1 S1 z r1 o1 s1 h1 => ?_
  obtain ⟨dd, fz, h2⟩ := see_of r1 o1 h1
  cases dd with
  | bool n => exact ⟨n, fz, h2 _ H1 F1 S1 [] r1 (fz_top r1 rfl) s1⟩
  | _ => exact h2.elim
/-- .. tests -/
theorem test_ok (e : Env) : test mus c m e = (ev mus c m e).andThen fun r e1 => (opd r e1).andThen fun p e2 => (see p e2).andThen fun x e3 => opt (truD x) e3 := by
  show bnd (bnd (ev mus c m) opd) (fun p => bnd (see p) fun x => opt (truD x)) e = _
  unfold bnd Out.andThen
  cases ev mus c m e with
  | ok r e1 => rfl
  | exn x e1 => rfl
  | bad => rfl
/-- what a bool's expression gives -/
theorem test_tmp {k : Bool} {e1 : Env} (h : ev mus c m e = .ok (.tmp (.fz (.bool k))) e1) : test mus c m e = .ok k e1 := by
  rw [test_ok, h]
  rfl
theorem st_not (ha : ST mus c XR W X a ea) : ST mus c XR W X (.not a) (.UnaryOp .Not ea pos) := by
  obtain ⟨ta, pa, ma⟩ := ha
  refine ⟨_, pt_not pa, fun e σ F H os vs S T Q r h => ?_⟩
  refine ma e σ F H os vs S T _ r ?_
  -- the test of not a: that of a, turned
  have key : ∀ (ok : Bool → Env → Prop) (ex : Exn → Env → Prop), Post ok ex (test mus c (.not a) e) → Post (fun k e1 => ok (!k) e1) ex (test mus c a e) := fun ok ex h => by
    rw [test_ok] at h ⊢
    have h : Post ok ex ((bnd (bnd (ev mus c a) opd) (fun p => bnd (see p) notK) e).andThen fun r e1 => (opd r e1).andThen fun p e2 => (see p e2).andThen fun x e3 => opt (truD x) e3) := h
    unfold bnd Out.andThen at h
    cases z : ev mus c a e with
    | exn x e1 => rw [z] at h; exact h
    | bad => rw [z] at h; exact h
    | ok rv e1 =>
      rw [z] at h
      simp only [Out.andThen] at h ⊢
      cases z2 : opd rv e1 with
      | exn x e2 => rw [z2] at h; exact h
      | bad => rw [z2] at h; exact h
      | ok p e2 =>
        rw [z2] at h
        simp only at h ⊢
        cases z3 : see p e2 with
        | exn x e3 => rw [z3] at h; exact h
        | bad => rw [z3] at h; exact h
        | ok x e3 =>
          rw [z3] at h
          cases x with
          | bool k => exact h
          | _ => exact h.elim
  exact key _ _ h
theorem sw_one {op : PySem.BoolOp} (h : ST mus c XR W X m ea) (ho : op = .And ∨ op = .Or) : SW mus c XR W X m (.BoolOp op [ea] pos) := by
  obtain ⟨t, p, mm⟩ := h
  rcases ho with rfl | rfl
  · exact ⟨t, pw_and1 p, mm⟩
  · exact ⟨t, pw_or1 p, mm⟩
theorem test_bool {y n : M Rv} {b : E} (hb : ∀ e, test mus c b e = (bnd (bnd (ev mus c a) opd) (fun p => bnd (see p) fun x => boolK y n x) e).andThen fun r e1 => (opd r e1).andThen fun p e2 => (see p e2).andThen fun x e3 => opt (truD x) e3)
    {ok : Bool → Env → Prop} {ex : Exn → Env → Prop} (h : Post ok ex (test mus c b e)) :
    Post (fun k e1 => Post ok ex (((if k = true then y else n) e1).andThen fun r e1 => (opd r e1).andThen fun p e2 => (see p e2).andThen fun x e3 => opt (truD x) e3)) ex (test mus c a e) := by
  rw [hb] at h
  rw [test_ok]
  unfold bnd at h
  cases z : ev mus c a e with
  | exn x e1 => rw [z] at h; exact h
  | bad => rw [z] at h; exact h
  | ok rv e1 =>
    rw [z] at h
    simp only [Out.andThen] at h ⊢
    cases z2 : opd rv e1 with
    | exn x e2 => rw [z2] at h; exact h
    | bad => rw [z2] at h; exact h
    | ok p e2 =>
      rw [z2] at h
      simp only at h ⊢
      cases z3 : see p e2 with
      | exn x e3 => rw [z3] at h; exact h
      | bad => rw [z3] at h; exact h
      | ok x e3 =>
        rw [z3] at h
        simp only at h ⊢
        unfold boolK at h
        cases x with
        | bool k => cases k <;> exact h
        | _ => exact h.elim
theorem sw_and {rest : List Expr} (ha : ST mus c XR W X a ea) (hb : SW mus c XR W X b (.BoolOp .And (eb :: rest) pos)) : SW mus c XR W X (.and a b) (.BoolOp .And (ea :: eb :: rest) pos) := by
  obtain ⟨ta, pa, ma⟩ := ha
  obtain ⟨tb, pb, mb⟩ := hb
  refine ⟨_, pw_and pa pb, fun e σ F H os vs S T Q r h => ?_⟩
  have h' := test_bool (a := a) (b := .and a b) (y := ev mus c b) (n := ret (.tmp (.fz (.bool false)))) (fun e => test_ok e) h
  refine ma e σ F H os vs S T _ r ?_
  cases z : test mus c a e with
  | exn x e1 => rw [z] at h'; exact h'
  | bad => rw [z] at h'; exact h'
  | ok k e1 =>
    rw [z] at h'
    intro H1 F1 S1 r1 s1
    cases k with
    | true =>
      rw [if_pos rfl]
      have h2 := h'
      simp only [Post, if_true, Bool.false_eq_true, if_false] at h2
      rw [← test_ok] at h2
      refine mb e1 σ F1 H1 os vs S1 T Q r1 ?_
      cases z2 : test mus c b e1 with
      | ok k2 e2 => rw [z2] at h2; exact fun H' F' S' r2 s2 => h2 H' F' S' r2 (s1.trans s2)
      | exn x e2 => rw [z2] at h2; exact PostX.after h2 s1
      | bad => rw [z2] at h2; exact h2
    | false =>
      rw [if_neg Bool.false_ne_true]
      exact h' H1 F1 S1 r1 (s1.weak fun z => by
        rw [show quiet mus (.and a b) = (quiet mus a && quiet mus b) from rfl, Bool.and_eq_true] at z
        exact z.1)
theorem sw_or {rest : List Expr} (ha : ST mus c XR W X a ea) (hb : SW mus c XR W X b (.BoolOp .Or (eb :: rest) pos)) : SW mus c XR W X (.or a b) (.BoolOp .Or (ea :: eb :: rest) pos) := by
  obtain ⟨ta, pa, ma⟩ := ha
  obtain ⟨tb, pb, mb⟩ := hb
  refine ⟨_, pw_or pa pb, fun e σ F H os vs S T Q r h => ?_⟩
  have h' := test_bool (a := a) (b := .or a b) (y := ret (.tmp (.fz (.bool true)))) (n := ev mus c b) (fun e => test_ok e) h
  refine ma e σ F H os vs S T _ r ?_
  cases z : test mus c a e with
  | exn x e1 => rw [z] at h'; exact h'
  | bad => rw [z] at h'; exact h'
  | ok k e1 =>
    rw [z] at h'
    intro H1 F1 S1 r1 s1
    cases k with
    | false =>
      rw [if_neg Bool.false_ne_true]
      have h2 := h'
      simp only [Post, if_true, Bool.false_eq_true, if_false] at h2
      rw [← test_ok] at h2
      refine mb e1 σ F1 H1 os vs S1 T Q r1 ?_
      cases z2 : test mus c b e1 with
      | ok k2 e2 => rw [z2] at h2; exact fun H' F' S' r2 s2 => h2 H' F' S' r2 (s1.trans s2)
      | exn x e2 => rw [z2] at h2; exact PostX.after h2 s1
      | bad => rw [z2] at h2; exact h2
    | true =>
      rw [if_pos rfl]
      exact h' H1 F1 S1 r1 (s1.weak fun z => by
        rw [show quiet mus (.or a b) = (quiet mus a && quiet mus b) from rfl, Bool.and_eq_true] at z
        exact z.1)
/-- a if t else b -/
theorem se_ite (hd : ST mus c XR W X d ed) (ha : SE mus c XR W X a ea) (hb : SE mus c XR W X b eb) : SE mus c XR W X (.ite d a b) (.IfExp ed ea eb pos) := by
  obtain ⟨td, pd, md⟩ := hd
  obtain ⟨ta, pa, ma⟩ := ha
  obtain ⟨tb, pb, mb⟩ := hb
  refine ⟨_, pe_ifExp pd pa pb, fun e σ F H os vs S T Q r h => ?_⟩
  have hq : ∀ z : quiet mus (.ite d a b) = true, quiet mus d = true ∧ quiet mus a = true ∧ quiet mus b = true := fun z => by
    rw [show quiet mus (.ite d a b) = (quiet mus d && (quiet mus a && quiet mus b)) from rfl, Bool.and_eq_true, Bool.and_eq_true] at z
    exact z
  have e1 : bnd (test mus c d) (fun k => if k = true then ev mus c a else ev mus c b) e = ev mus c (.ite d a b) e := by
    show bnd (bnd (bnd (ev mus c d) opd) (fun p => bnd (see p) fun x => opt (truD x))) _ e = bnd (bnd (ev mus c d) opd) (fun p => bnd (see p) fun x => bnd (opt (truD x)) _) e
    unfold bnd Out.andThen
    cases ev mus c d e with
    | exn x e1 => rfl
    | bad => rfl
    | ok r e1 =>
      simp only
      cases opd r e1 with
      | exn x e1 => rfl
      | bad => rfl
      | ok p e2 =>
        simp only
        cases see p e2 with
        | exn x e1 => rfl
        | bad => rfl
        | ok x e3 => rfl
  rw [← e1] at h
  refine md.bind r h (fun _ _ z => z) fun k e1 H1 F1 S1 r1 s1 h1 => ?_
  cases k with
  | true =>
    rw [if_pos rfl] at h1 ⊢
    refine ma e1 σ F1 H1 os vs S1 T Q r1 ?_
    cases z2 : ev mus c a e1 with
    | ok rv e2 =>
      rw [z2] at h1
      cases rv with
      | tmp o => exact fun v H' F' S' Sv r2 t2 s2 => h1 v H' F' S' Sv r2 t2 ((s1.trans s2).weak fun z => by rw [Bool.and_eq_true]; exact ⟨(hq z).1, (hq z).2.1⟩)
      | «at» i ks => exact fun v H' F' S' r2 o2 s2 => h1 v H' F' S' r2 o2 ((s1.trans s2).weak fun z => by rw [Bool.and_eq_true]; exact ⟨(hq z).1, (hq z).2.1⟩)
    | exn x e2 => rw [z2] at h1; exact PostX.after h1 s1
    | bad => rw [z2] at h1; exact h1
  | false =>
    rw [if_neg Bool.false_ne_true] at h1 ⊢
    refine mb e1 σ F1 H1 os vs S1 T Q r1 ?_
    cases z2 : ev mus c b e1 with
    | ok rv e2 =>
      rw [z2] at h1
      cases rv with
      | tmp o => exact fun v H' F' S' Sv r2 t2 s2 => h1 v H' F' S' Sv r2 t2 ((s1.trans s2).weak fun z => by rw [Bool.and_eq_true]; exact ⟨(hq z).1, (hq z).2.2⟩)
      | «at» i ks => exact fun v H' F' S' r2 o2 s2 => h1 v H' F' S' r2 o2 ((s1.trans s2).weak fun z => by rw [Bool.and_eq_true]; exact ⟨(hq z).1, (hq z).2.2⟩)
    | exn x e2 => rw [z2] at h1; exact PostX.after h1 s1
    | bad => rw [z2] at h1; exact h1
end
end HW
end

section
set_option Elab.async false
set_option linter.all false
set_option maxRecDepth 100000
set_option maxHeartbeats 1000000
/-! # Argument lists, displays, items, cuts, built-ins -/
namespace HW
open PySem PySem.Spec PyProof.Rows L2
def OpdRs (K : PySem.W.Frag) (F : Addr → Prop) (H : Hp) (σ : L2.St) : List Opd → List V → Prop
  | [], xs => xs = []
  | p :: ps, xs => ∃ x r, xs = x :: r ∧ OpdR K F H σ p x ∧ OpdRs K F H σ ps r
structure TopAll (K : PySem.W.Frag) (F : Addr → Prop) (H : Hp) (os : List OD) (xs : List V) (S Sx T : List Addr) : Prop where
  ow : OwAll K F H os xs Sx
  nd : (S ++ (Sx ++ T)).Nodup
  ap : ∀ b ∈ Sx, ¬ F b
section
variable (K : PySem.W.Frag) (XR : XRel) (W : WX) (q : Bool)
def MOs (t : TA) (f : M (List Opd)) : Prop := ∀ e σ F H os vs S T (Q : List V → Hp → Prop), Rel K F H e σ os vs S T →
  Post (fun ps e' => ∀ xs H' F' S', Rel K F' H' e' σ os vs S' T → OpdRs K F' H' σ ps xs → Step q H F (S ++ T) H' F' (S' ++ T) → Q xs H') (PostX K XR W σ os vs T H F (S ++ T)) (f e) → t σ H Q
def MVs (t : TA) (f : M (List OD)) : Prop := ∀ e σ F H os vs S T (Q : List V → Hp → Prop), Rel K F H e σ os vs S T →
  Post (fun ws e' => ∀ xs H' F' S' Sx, Rel K F' H' e' σ os vs S' T → TopAll K F' H' ws xs S' Sx T → Step q H F (S ++ T) H' F' (S' ++ (Sx ++ T)) → Q xs H') (PostX K XR W σ os vs T H F (S ++ T)) (f e) → t σ H Q
end
section
variable (mus : Nat → Option Nat) (c : CallF) (XR : XRel) (W : WX) (X : Cx)
def SA (ms : List E) (es : List Expr) : Prop := ∃ t, PA X es t ∧ MOs X.K XR W (quiets mus ms) t (evs mus c ms)
def SV (ms : List E) (es : List Expr) : Prop := ∃ t, PA X es t ∧ MVs X.K XR W (quiets mus ms) t (evo mus c ms)
end
section
variable {mus : Nat → Option Nat} {c : CallF} {XR : XRel} {W : WX} {X : Cx} {m a b d i : E} {as : List E} {ea eb ec ed : Expr} {es : List Expr} {pos : Pos} {k : Nat}
variable {K : PySem.W.Frag} {q qa qb : Bool} {F F' F1 : Addr → Prop} {H H' H1 : Hp} {e e' : Env} {σ : L2.St} {os : List OD} {vs : List V} {S S' T A A1 Sv : List Addr} {t ta tb : TE}
theorem MOs.bind {α : Type} {f : M (List Opd)} {g : List Opd → M α} {G : List V → Hp → Prop} {t : TA} {ok : α → Env → Prop} {ex : Exn → Env → Prop} (m : MOs K XR W q t f) (r : Rel K F H e σ os vs S T) (h : Post ok ex (bnd f g e)) (hx : ∀ x e', ex x e' → PostX K XR W σ os vs T H F (S ++ T) x e')
    (c : ∀ ps e1 xs H1 F1 S1, Rel K F1 H1 e1 σ os vs S1 T → OpdRs K F1 H1 σ ps xs → Step q H F (S ++ T) H1 F1 (S1 ++ T) → Post ok ex (g ps e1) → G xs H1) : t σ H G := by
  refine m e σ F H os vs S T G r ?_
  unfold bnd Out.andThen at h
  cases z : f e with
  | ok p e1 => rw [z] at h; exact fun xs H1 F1 S1 r1 o1 s1 => c p e1 xs H1 F1 S1 r1 o1 s1 h
  | exn x e1 => rw [z] at h; exact hx x e1 h
  | bad => rw [z] at h; exact h
theorem MVs.bind {α : Type} {f : M (List OD)} {g : List OD → M α} {G : List V → Hp → Prop} {t : TA} {ok : α → Env → Prop} {ex : Exn → Env → Prop} (m : MVs K XR W q t f) (r : Rel K F H e σ os vs S T) (h : Post ok ex (bnd f g e)) (hx : ∀ x e', ex x e' → PostX K XR W σ os vs T H F (S ++ T) x e')
    (c : ∀ ws e1 xs H1 F1 S1 Sx, Rel K F1 H1 e1 σ os vs S1 T → TopAll K F1 H1 ws xs S1 Sx T → Step q H F (S ++ T) H1 F1 (S1 ++ (Sx ++ T)) → Post ok ex (g ws e1) → G xs H1) : t σ H G := by
  refine m e σ F H os vs S T G r ?_
  unfold bnd Out.andThen at h
  cases z : f e with
  | ok p e1 => rw [z] at h; exact fun xs H1 F1 S1 Sx r1 o1 s1 => c p e1 xs H1 F1 S1 Sx r1 o1 s1 h
  | exn x e1 => rw [z] at h; exact hx x e1 h
  | bad => rw [z] at h; exact h
theorem sa_nil : SA mus c XR W X [] [] := ⟨_, pa_nil, fun e σ F H os vs S T Q r h => h [] H F S r rfl Step.refl⟩
theorem sa_cons (ha : SE mus c XR W X a ea) (hr : SA mus c XR W X as es) (hd : shallow a = true ∨ quiets mus as = true) (hs : starEach (ea :: es) X.env = (false, eval ea X.env) :: starEach es X.env) : SA mus c XR W X (a :: as) (ea :: es) := by
  obtain ⟨ta, pa, ma⟩ := ha
  obtain ⟨tr, pr, mr⟩ := hr
  refine ⟨_, pa_cons pa pr hs, fun e σ F H os vs S T Q r h => ?_⟩
  refine ma.opd.bind r h (fun _ _ z => z) fun p e1 x H1 F1 S1 z r1 o1 s1 h1 => ?_
  refine mr.bind r1 h1 (fun x e' hx => PostX.after hx s1) fun ps e2 xs H2 F2 S2 r2 o2 s2 h2 => ?_
  exact h2 (x :: xs) H2 F2 S2 r2 ⟨x, xs, rfl, o1.stay r1 s2 (hd.imp (fun z' => Shal.of z' _ _ _ z) id), o2⟩ (s1.trans s2)
theorem sv_nil : SV mus c XR W X [] [] := ⟨_, pa_nil, fun e σ F H os vs S T Q r h => h [] H F S [] r ⟨⟨rfl, rfl⟩, r.nd, fun _ z => (nomatch z)⟩ Step.refl⟩
theorem PostX.push {o : OD} {v : V} {x : Exn} (h : PostX K XR W σ os vs T H F A x e') (s : Step q H F A H1 F1 A1) (n : Sv.length = nodes o) : PostX K XR W σ (o :: os) (v :: vs) (Sv ++ T) H1 F1 A1 x e' := fun H' F' S' cls d r s' xr =>
  h H' F' S' cls d (r.pop n).1 (((s.trans s').weak fun z => by cases z).perm (fun _ => Iff.rfl) fun b hb => by
    rcases List.mem_append.mp hb with z | z <;> simp [z]) xr
theorem sv_cons (ha : SE mus c XR W X a ea) (hr : SV mus c XR W X as es) (hs : starEach (ea :: es) X.env = (false, eval ea X.env) :: starEach es X.env) : SV mus c XR W X (a :: as) (ea :: es) := by
  obtain ⟨ta, pa, ma⟩ := ha
  obtain ⟨tr, pr, mr⟩ := hr
  refine ⟨_, pa_cons pa pr hs, fun e σ F H os vs S T Q r h => ?_⟩
  refine ma.val.bind r h (fun _ _ z => z) fun o e1 x H1 F1 S1 Sv r1 t1 s1 h1 => ?_
  have n1 := Ow.len o x Sv t1.ow
  refine mr.bind (r1.push t1) h1 (fun x e' hx => PostX.push hx s1 n1) fun ws e2 xs H2 F2 S2 Sx r2 t2 s2 h2 => ?_
  obtain ⟨r3, t3⟩ := r2.pop n1
  refine h2 (x :: xs) H2 F2 S2 (Sv ++ Sx) r3 ⟨⟨x, xs, Sv, Sx, rfl, t3.ow, t2.ow, rfl⟩, ?_, fun b hb => (List.mem_append.mp hb).elim (t3.ap b) (t2.ap b)⟩ ((s1.trans s2).perm (fun _ => Iff.rfl) fun b hb => ?_)
  · refine (List.Perm.nodup_iff ?_).mp t2.nd
    refine List.Perm.append_left S2 ?_
    rw [← List.append_assoc]
    exact List.Perm.append_right T List.perm_append_comm
  · simp only [List.mem_append] at hb ⊢
    rcases hb with z | (z | z) | z <;> simp [z]
theorem seeAll_of {β : Type} (r : Rel K F H e σ os vs S T) : ∀ {ps : List Opd} {xs : List V} {k : List PyData → M β} {ok : β → Env → Prop} {ex : Exn → Env → Prop}, OpdRs K F H σ ps xs → Post ok ex (bnd (seeAll ps) k e) → ∃ ds, FzAll K (FS F S) H ds xs ∧ Post ok ex (k ds e)
  | [], xs, k, ok, ex, o, h => ⟨[], o, h⟩
  | p :: ps, xs, k, ok, ex, ⟨x, r', e1, o1, o2⟩, h => by
    have h : Post ok ex (bnd (see p) (fun d => bnd (seeAll ps) fun ds => k (d :: ds)) e) := by
      refine Eq.mp ?_ h
      congr 1
      show bnd (bnd (see p) fun d => bnd (seeAll ps) fun ds => ret (d :: ds)) k e = _
      unfold bnd Out.andThen
      cases see p e with
      | ok d e1 =>
        simp only
        cases seeAll ps e1 with
        | ok ds e2 => rfl
        | exn x e2 => rfl
        | bad => rfl
      | exn x e1 => rfl
      | bad => rfl
    obtain ⟨d, f1, h1⟩ := see_of r o1 h
    obtain ⟨ds, f2, h2⟩ := seeAll_of r (k := fun ds => k (d :: ds)) o2 h1
    exact ⟨d :: ds, ⟨x, r', e1, f1, f2⟩, h2⟩
theorem keepAll_of {β : Type} (r : Rel K F H e σ os vs S T) : ∀ {ps : List Opd} {xs : List V} {k : List PyData → M β} {ok : β → Env → Prop} {ex : Exn → Env → Prop}, OpdRs K F H σ ps xs → Post ok ex (bnd (keepAll ps) k e) → ∃ ds, KpAll K F H ds xs ∧ Post ok ex (k ds e)
  | [], xs, k, ok, ex, o, h => ⟨[], o, h⟩
  | p :: ps, xs, k, ok, ex, ⟨x, r', e1, o1, o2⟩, h => by
    have h : Post ok ex (bnd (keep p) (fun d => bnd (keepAll ps) fun ds => k (d :: ds)) e) := by
      refine Eq.mp ?_ h
      congr 1
      show bnd (bnd (keep p) fun d => bnd (keepAll ps) fun ds => ret (d :: ds)) k e = _
      unfold bnd Out.andThen
      cases keep p e with
      | ok d e1 =>
        simp only
        cases keepAll ps e1 with
        | ok ds e2 => rfl
        | exn x e2 => rfl
        | bad => rfl
      | exn x e1 => rfl
      | bad => rfl
    obtain ⟨d, f1, h1⟩ := keep_of r o1 h
    obtain ⟨ds, f2, h2⟩ := keepAll_of r (k := fun ds => k (d :: ds)) o2 h1
    exact ⟨d :: ds, ⟨x, r', e1, f1, f2⟩, h2⟩
theorem OpdRs.stay (r : Rel K F H e σ os vs S T) (s : Step true H F (S ++ T) H1 F1 A1) : ∀ {ps : List Opd} {xs : List V}, OpdRs K F H σ ps xs → OpdRs K F1 H1 σ ps xs
  | [], _, h => h
  | p :: ps, xs, ⟨x, r', e1, o1, o2⟩ => ⟨x, r', e1, o1.stay r s (.inr rfl), OpdRs.stay r s o2⟩
theorem giveAll_of {β : Type} : ∀ {ps : List Opd} {xs : List V} {e : Env} {F : Addr → Prop} {S : List Addr} {k : List PyData → M β} {ok : β → Env → Prop} {ex : Exn → Env → Prop}, Rel K F H e σ os vs S T → OpdRs K F H σ ps xs → Post ok ex (bnd (giveAll ps) k e) →
    ∃ ds e1 F1 S1, Rel K F1 H e1 σ os vs S1 T ∧ FzAll K F1 H ds xs ∧ Step true H F (S ++ T) H F1 (S1 ++ T) ∧ Post ok ex (k ds e1)
  | [], xs, e, F, S, k, ok, ex, r, o, h => ⟨[], e, F, S, r, o, Step.refl, h⟩
  | p :: ps, xs, e, F, S, k, ok, ex, r, ⟨x, r', e1, o1, o2⟩, h => by
    have h : Post ok ex (bnd (give p) (fun d => bnd (giveAll ps) fun ds => k (d :: ds)) e) := by
      refine Eq.mp ?_ h
      congr 1
      show bnd (bnd (give p) fun d => bnd (giveAll ps) fun ds => ret (d :: ds)) k e = _
      unfold bnd Out.andThen
      cases give p e with
      | ok d e1 =>
        simp only
        cases giveAll ps e1 with
        | ok ds e2 => rfl
        | exn x e2 => rfl
        | bad => rfl
      | exn x e1 => rfl
      | bad => rfl
    obtain ⟨d, e2, F1, S1, r1, f1, s1, h1⟩ := give_of r o1 h
    obtain ⟨ds, e3, F2, S2, r2, f2, s2, h2⟩ := giveAll_of (k := fun ds => k (d :: ds)) r1 (o2.stay r s1) h1
    exact ⟨d :: ds, e3, F2, S2, r2, ⟨x, r', e1, r1.fz s2 f1, f2⟩, s1.trans s2, h2⟩

/-! ## displays -/
theorem se_tup {x1 : Nat} (ha : SA mus c XR W X as es) : SE mus c XR W X (.tup as) (.Tuple es x1 pos) := by
  obtain ⟨t, p, mm⟩ := ha
  refine ⟨_, pe_tup p, fun e σ F H os vs S T Q r h => ?_⟩
  refine mm.bind r h (fun _ _ z => z) fun ps e1 xs H1 F1 S1 r1 o1 s1 h1 => ?_
  obtain ⟨ds, e2, F2, S2, r2, f2, s2, h2⟩ := giveAll_of r1 o1 h1
  split at h2
  · rename_i l
    refine ⟨by rw [f2.length, ← lim_eq]; exact l, fun p np => ?_⟩
    have md := Made.tup (K := X.K) (F := F2) np f2
    obtain ⟨r3, t3, s3⟩ := r2.made md
    exact h2 _ _ _ S2 [] r3 t3 (((s1.trans s2).trans s3).weak fun z => by
      rw [show quiets mus as = true from z]; rfl)
  · exact h2.elim
theorem se_lst (ha : SV mus c XR W X as es) : SE mus c XR W X (.lst as) (.List es pos) := by
  obtain ⟨t, p, mm⟩ := ha
  refine ⟨_, pe_lst p, fun e σ F H os vs S T Q r h => ?_⟩
  refine mm.bind r h (fun _ _ z => z) fun ws e1 xs H1 F1 S1 Sx r1 t1 s1 h1 => ?_
  split at h1
  · rename_i l
    refine ⟨by rw [t1.ow.length, ← lim_eq]; exact l, fun p np => ?_⟩
    obtain ⟨r3, s3⟩ := r1.junk (o := .lst xs) np
    have np' : p ∉ S1 ++ (Sx ++ T) := fun z => by
      simp only [List.mem_append] at z
      rcases z with z | z | z
      · exact OwS.trk r1.sl p z np
      · exact OwAll.trk t1.ow p z np
      · exact OwAll.trk r1.tm p z np
    refine h1 (.ref p) _ _ S1 (p :: Sx) r3 ⟨⟨p, xs, Sx, rfl, upd_same, OwAll.stay (fun _ z => z) (fun b u _ z => by rw [upd_ne (ne_of_none z np)]; exact z) ws xs Sx (fun b u _ z => by rw [upd_ne (ne_of_none z np)]; exact z) t1.ow, rfl⟩, ?_, fun b hb => ?_⟩ ⟨fun b u z hb => ?_, fun b z => s3.trk b (s1.trk b z), fun b z => s1.fm b z, fun b z => s1.fn b z, fun b hb => ?_⟩
    · have p1 : (p :: (S1 ++ (Sx ++ T))).Nodup := List.nodup_cons.mpr ⟨np', t1.nd⟩
      refine (List.Perm.nodup_iff ?_).mp p1
      exact (List.perm_middle (l₁ := S1) (l₂ := Sx ++ T) (a := p)).symm
    · rcases List.mem_cons.mp hb with rfl | hb
      · exact fun z => r1.tr b z np
      · exact t1.ap b hb
    · rw [upd_ne (ne_of_none (s1.keep b u z hb) np)]
      exact s1.keep b u z hb
    · simp only [List.mem_append, List.mem_cons] at hb
      rcases hb with z | (rfl | z) | z
      · exact s1.sn b (by simp [z])
      · refine .inr ?_
        cases q : H b with
        | none => rfl
        | some u => exact absurd np (s1.trk b (by rw [q]; exact fun z => nomatch z))
      · exact s1.sn b (by simp [z])
      · exact s1.sn b (by simp [z])
  · exact h1.elim

/-! ## items -/
/-- o[k], of a list, a tuple, a text, a dict -/
def rIxA (K : PySem.W.Frag) : R2 := fun x y H Q => (∃ a xs i v, x = .ref a ∧ y = .int i ∧ SqL K H a xs ∧ atI xs i = some v ∧ Q v H) ∨ (∃ a xs i v, x = .ref a ∧ y = .int i ∧ SqT K H a xs ∧ atI xs i = some v ∧ Q v H) ∨
  (∃ z i n, x = .str z ∧ y = .int i ∧ z.length ≤ sizeLine ∧ atI z.cps.toList i = some n ∧ Q (.str ⟨#[n]⟩) H) ∨ ∃ a es k v, x = .ref a ∧ y = kV k ∧ Rd H a (.dK es) ∧ valV es k = some v ∧ Q v H
theorem ix_any (hu : X.A.units + 1 < cLine) : IxR X (rIxA X.K) := by
  intro value slice pins s σ H x y v u Q I rx ry h hs
  rcases h with h | h | h | ⟨a, es, k, w, rfl, rfl, hr, hv, q⟩
  · exact ix_list value slice pins s σ H x y v u Q I rx ry h hs
  · exact ix_tup value slice pins s σ H x y v u Q I rx ry h hs
  · exact ix_str value slice pins s σ H x y v u Q I rx ry h hs
  · cases rx
    have g : DGet H a (kV k) (some w) := .inl ⟨es, k, hr, rfl, hv.symm⟩
    exact tail_any (ops := [.ref a, u]) (dict_typeIs I g) PySem.F.slot_dict_getitem.lookup (d_getItem hu I g ry fun w' s' I' r' => ⟨w, H, I', r', q⟩) hs
end
end HW
end

section
set_option Elab.async false
set_option linter.all false
set_option maxRecDepth 100000
set_option maxHeartbeats 1000000
/-! # Items, cuts, built-ins -/
namespace HW
open PySem PySem.Spec PyProof.Rows L2
section
variable {K : PySem.W.Frag} {F F' F1 : Addr → Prop} {H H' H1 : Hp} {e e' : Env} {σ : L2.St} {os : List OD} {vs : List V} {S S' T A A1 Sv : List Addr}
/-- an item of frozen data, as the machine finds it -/
theorem idx_fz {d k z : PyData} {x y : V} (hd : Fz K F H d x) (hk : Fz K F' H k y) (h : idxD d k = some z) : ∃ v, Fz K F H z v ∧ ∀ Q : VK, Q v H → rIxA K x y H Q := by
  have str : ∀ s : Str, d = .str s → ∃ v, Fz K F H z v ∧ ∀ Q : VK, Q v H → rIxA K x y H Q := by
    rintro s rfl
    cases k with
    | int i =>
      have h : (if s.length ≤ lim then (item s.cps.toList i).map fun c => PyData.str ⟨#[c]⟩ else none) = some z := h
      split at h
      · rename_i l
        obtain ⟨c, e1, rfl⟩ := Option.map_eq_some_iff.mp h
        exact ⟨.str ⟨#[c]⟩, rfl, fun Q q => .inr (.inr (.inl ⟨s, i, c, hd, hk, by rw [← lim_eq]; exact l, by rw [← item_atI]; exact e1, q⟩))⟩
      · cases h
    | _ => cases h
  cases d with
  | str s => exact str s rfl
  | list ds =>
    cases k with
    | int i =>
      obtain ⟨a, xs, rfl, fa, ra, h2⟩ := hd
      obtain ⟨v, e1, f1⟩ := h2.item (show item ds i = some z from h)
      exact ⟨v, f1, fun Q q => .inl ⟨a, xs, i, v, rfl, hk, .inl ra, e1, q⟩⟩
    | _ => cases h
  | tuple ds =>
    cases k with
    | int i =>
      obtain ⟨a, xs, rfl, ta, h2⟩ := fz_tup hd
      obtain ⟨v, e1, f1⟩ := h2.item (show item ds i = some z from h)
      exact ⟨v, f1, fun Q q => .inr (.inl ⟨a, xs, i, v, rfl, hk, ta, e1, q⟩)⟩
    | _ => cases h
  | dict kvs =>
    have h : (if keyOk k = true then look (kvs.map (·.1)) (kvs.map (·.2)) k else none) = some z := by cases k <;> exact h
    split at h
    · rename_i c
      obtain ⟨a, es, rfl, fa, ra, h2⟩ := hd
      obtain ⟨y', ky, rfl⟩ := key_kV hk c
      obtain ⟨kk, fz⟩ := h2.keys
      obtain ⟨i, p, e1, e2, e3⟩ := keysR_look ky kk h
      obtain ⟨v, g1, g2⟩ := fz.get e2
      rw [List.getElem?_map, e1] at g1
      cases g1
      exact ⟨_, g2, fun Q q => .inr (.inr (.inr ⟨a, es, y', _, rfl, rfl, ra, e3, q⟩))⟩
    · cases h
  | _ => cases h
/-- a child of an owned tree, as the machine finds it -/
theorem kid_ix {o p : OD} {k : PyData} {x y : V} {B : List Addr} (h : Ow K F H o x B) (hk : Fz K F' H k y) (g : kid o k = some p) : ∃ v B', Ow K F H p v B' ∧ (∀ b ∈ B', b ∈ B) ∧ (∃ a, x = .ref a ∧ KidV H a k v) ∧ ∀ Q : VK, Q v H → rIxA K x y H Q := by
  cases o with
  | fz d => cases g
  | lst os =>
    cases k with
    | int i =>
      obtain ⟨a, xs, S', rfl, h1, h2, rfl⟩ := h
      obtain ⟨j, e1, e2⟩ := Option.bind_eq_some_iff.mp (show (place os.length i).bind (fun j => os[j]?) = some p from g)
      obtain ⟨v, S1, g1, g2, g3⟩ := h2.get e2
      have it : item xs i = some v := by
        unfold item
        rw [h2.length, e1]
        exact g1
      exact ⟨v, S1, g2, fun b hb => List.mem_cons_of_mem _ (g3 b hb), ⟨a, rfl, .inl ⟨xs, i, h1, rfl, it⟩⟩, fun Q q => .inl ⟨a, xs, i, v, rfl, hk, .inl (.inl h1), by rw [← item_atI]; exact it, q⟩⟩
    | _ => cases g
  | dct ks os =>
    have g : (if keyOk k = true then look ks os k else none) = some p := by cases k <;> exact g
    split at g
    · rename_i c
      obtain ⟨a, es, S', rfl, h1, hkk, h2, rfl⟩ := h
      obtain ⟨y', ky, rfl⟩ := key_kV hk c
      obtain ⟨i, pr, e1, e2, e3⟩ := keysR_look ky hkk g
      obtain ⟨v, S1, g1, g2, g3⟩ := h2.get e2
      rw [List.getElem?_map, e1] at g1
      cases g1
      exact ⟨_, S1, g2, fun b hb => List.mem_cons_of_mem _ (g3 b hb), ⟨a, rfl, .inr ⟨es, y', h1, ky, e3⟩⟩, fun Q q => .inr (.inr (.inr ⟨a, es, y', _, rfl, rfl, .inl h1, e3, q⟩))⟩
    · cases g
  | ins _ _ _ => exact h.elim
theorem PathV.snoc {k : PyData} {a : Addr} {v w : V} : ∀ {ks : List PyData} {v0 : V}, PathV H v0 ks v → v = .ref a → KidV H a k w → PathV H v0 (ks ++ [k]) w
  | [], v0, h, e, g => ⟨a, w, by rw [← e]; exact (show v = v0 from h).symm, g, rfl⟩
  | _ :: ks, v0, ⟨b, v', e1, h1, h2⟩, e, g => ⟨b, v', e1, h1, PathV.snoc (ks := ks) h2 e g⟩
end
section
variable {mus : Nat → Option Nat} {c : CallF} {XR : XRel} {W : WX} {X : Cx} {m a b d i : E} {as bs : List E} {ea eb ec ed : Expr} {es : List Expr} {pos : Pos} {k : Nat}
variable {F F' F1 : Addr → Prop} {H H' H1 : Hp} {e e' : Env} {σ : L2.St} {os : List OD} {vs : List V} {S S' T A A1 Sv : List Addr}
theorem se_idx (hu : X.A.units + 1 < cLine) (ha : SE mus c XR W X a ea) (hi : SE mus c XR W X i eb) (hd : shallow a = true ∨ quiet mus i = true) (hs : PlainIx eb) : SE mus c XR W X (.idx a i) (.Subscript ea eb pos) := by
  obtain ⟨ta, pa, ma⟩ := ha
  obtain ⟨tb, pb, mb⟩ := hi
  refine ⟨_, pe_ix (ix_any hu) pa pb hs, fun e σ F H os vs S T Q r h => ?_⟩
  refine MO.two ma.opd mb.opd (hd.imp Shal.of id) r h (fun _ _ z => z) fun p p' e2 x y H2 F2 S2 r2 o1 o2 s2 h2 => ?_
  obtain ⟨k, fk, h3⟩ := see_of r2 o2 h2
  cases p with
  | fz d =>
    obtain ⟨z, hz, h4⟩ := post_opt (k := fun x => ret (Rv.tmp (.fz x))) h3
    obtain ⟨v, fv, q⟩ := idx_fz o1 fk hz
    exact q _ (h4 v H2 F2 S2 [] r2 (fz_top r2 fv) s2)
  | «at» j ks =>
    obtain ⟨o, ⟨B, ow, sB⟩, so, h4⟩ := post_at (k := nodeK j ks k) r2 o1 h3
    obtain ⟨v0, e0, pv⟩ := o1
    have other : isFz o = none → Post (OkR X.K σ os vs T (quiet mus (.idx a i)) Q H F (S ++ T)) (PostX X.K XR W σ os vs T H F (S ++ T)) (bnd (opt (kid o k)) (fun x => kidK j ks k x) e2) → rIxA X.K x y H2 Q := by
      intro hn h5
      obtain ⟨w, hw, h6⟩ := post_opt h5
      obtain ⟨v, B', w1, w2, ⟨ad, w3, w4⟩, q⟩ := kid_ix ow fk hw
      refine q _ ?_
      have snoc : OpdR X.K F2 H2 σ (.at j (ks ++ [k])) v := ⟨v0, e0, pv.snoc w3 w4⟩
      cases w with
      | fz d => exact h6 v H2 F2 S2 [] r2 (fz_top r2 w1.1) s2
      | lst _ => exact h6 v H2 F2 S2 r2 snoc s2
      | dct _ _ => exact h6 v H2 F2 S2 r2 snoc s2
      | ins _ _ _ => exact w1.elim
    cases o with
    | fz d =>
      obtain ⟨z, hz, h5⟩ := post_opt (k := fun x => ret (Rv.tmp (.fz x))) h4
      obtain ⟨v, fv, q⟩ := idx_fz ow.1 fk hz
      exact q _ (h5 v H2 F2 S2 [] r2 (fz_top r2 fv) s2)
    | lst _ => exact other rfl h4
    | dct _ _ => exact other rfl h4
    | ins _ _ _ => exact ow.elim
/-- a built-in called -/
theorem biArgs_of {β : Type} {b : Bi} {ps : List Opd} {xs : List V} {k : List PyData → M β} {ok : β → Env → Prop} {ex : Exn → Env → Prop} (r : Rel X.K F H e σ os vs S T) (o : OpdRs X.K F H σ ps xs) (h : Post ok ex (bnd (biArgs b ps) k e)) :
    ∃ ds F₁, (if b.shares then KpAll X.K F H ds xs else FzAll X.K F₁ H ds xs) ∧ Post ok ex (k ds e) := by
  unfold biArgs at h
  split at h
  · rename_i c
    obtain ⟨ds, f, h1⟩ := keepAll_of r o h
    exact ⟨ds, F, by rw [if_pos c]; exact f, h1⟩
  · rename_i c
    obtain ⟨ds, f, h1⟩ := seeAll_of r o h
    exact ⟨ds, FS F S, by rw [if_neg c]; exact f, h1⟩
theorem mr_bi {b : Bi} {t : TA} (mm : MOs X.K XR W (quiets mus as) t (evs mus c as)) : MR X.K XR W (quiet mus (.bi b as)) (tCB (rBi X.K b) t) (ev mus c (.bi b as)) := fun e σ F H os vs S T Q r h => by
  refine mm.bind r h (fun _ _ z => z) fun ps e1 xs H1 F1 S1 r1 o1 s1 h1 => ?_
  obtain ⟨ds, F₁, f, h2⟩ := biArgs_of r1 o1 h1
  obtain ⟨z, hz, h3⟩ := post_opt h2
  refine ⟨F₁, F1, ds, z, f, r1.tr, hz, fun v H' F' Sv md => ?_⟩
  obtain ⟨r3, t3, s3⟩ := r1.made md
  exact h3 v H' F' S1 Sv r3 t3 ((s1.trans s3).weak fun z => by rw [show quiets mus as = true from z]; rfl)
theorem se_biB {b : Bi} {id : String} {x : Str} {p : Pos} (hbv : biV b = .builtin id) (hc : X.calm = true) (hgu : X.A.guards = some []) (hu : X.A.units + 70 < cLine) (hg : Gl X x) (hm : X.mg x = none) (hv : bootBuiltins x = some (.builtin id)) (ha : SA mus c XR W X as (ea :: es)) (hn : x ≠ "__name__") (hdb : (x == ("__debug__" : Str)) = false)
    (he : starEach (ea :: es) X.env = (false, eval ea X.env) :: starEach es X.env) (hpl : (backTo pos (starEach es X.env)).any (·.1) = false) : SE mus c XR W X (.bi b as) (.Call (.Name x p) (ea :: es) [] pos) := by
  obtain ⟨t, pa, mm⟩ := ha
  exact ⟨_, pe_callB (hbv ▸ call_bi hc hgu hu b) hg hm hv pa hn hdb he hpl, mr_bi mm⟩
theorem se_biT {b : Bi} {id : String} {x : Str} {p : Pos} (hbv : biV b = .type id) (hc : X.calm = true) (hgu : X.A.guards = some []) (hu : X.A.units + 70 < cLine) (hg : Gl X x) (hm : X.mg x = none) (hv : bootBuiltins x = some (.type id)) (ha : SA mus c XR W X as (ea :: es)) (hn : x ≠ "__name__") (hdb : (x == ("__debug__" : Str)) = false)
    (he : starEach (ea :: es) X.env = (false, eval ea X.env) :: starEach es X.env) (hpl : (backTo pos (starEach es X.env)).any (·.1) = false) : SE mus c XR W X (.bi b as) (.Call (.Name x p) (ea :: es) [] pos) := by
  obtain ⟨t, pa, mm⟩ := ha
  exact ⟨_, pe_callTy (hbv ▸ call_bi hc hgu hu b) hg hm hv pa hn hdb he hpl, mr_bi mm⟩
/-- a cut's end -/
def SPo (mus : Nat → Option Nat) (c : CallF) (XR : XRel) (W : WX) (X : Cx) (ms : List E) (o : Option Expr) : Prop := ∃ t : TO, PO X o t ∧ ∀ e σ F H os vs S T (Q : Option Int → Hp → Prop), Rel X.K F H e σ os vs S T →
  Post (fun n e' => ∀ H' F' S', Rel X.K F' H' e' σ os vs S' T → Step (quiets mus ms) H F (S ++ T) H' F' (S' ++ T) → Q n H') (PostX X.K XR W σ os vs T H F (S ++ T)) (bnd (evs mus c ms) cutP e) → t σ H Q
theorem spo_none : SPo mus c XR W X [] none := ⟨_, po_none, fun e σ F H os vs S T Q r h => h H F S r Step.refl⟩
theorem spo_some (ha : SE mus c XR W X a ea) : SPo mus c XR W X [a] (some ea) := by
  obtain ⟨t, p, mm⟩ := ha
  refine ⟨_, po_some p, fun e σ F H os vs S T Q r h => ?_⟩
  have h' : Post (fun n e' => ∀ H' F' S', Rel X.K F' H' e' σ os vs S' T → Step (quiets mus [a]) H F (S ++ T) H' F' (S' ++ T) → Q n H') (PostX X.K XR W σ os vs T H F (S ++ T)) (bnd (bnd (ev mus c a) opd) (fun p => bnd (see p) fun d => opt (cutEnds [d])) e) := by
    refine Eq.mp ?_ h
    congr 1
    show bnd (bnd (bnd (ev mus c a) opd) fun p => bnd (ret []) fun ps => ret (p :: ps)) cutP e = _
    unfold bnd Out.andThen
    cases ev mus c a e with
    | exn x e1 => rfl
    | bad => rfl
    | ok rv e1 =>
      simp only
      cases opd rv e1 with
      | exn x e1 => rfl
      | bad => rfl
      | ok p e2 =>
        show bnd (bnd (see p) fun d => bnd (ret []) fun ds => ret (d :: ds)) (fun ds => opt (cutEnds ds)) e2 = _
        unfold bnd Out.andThen
        simp only
        cases see p e2 <;> rfl
  refine mm.opd.bind r h' (fun _ _ z => z) fun p e1 x H1 F1 S1 z r1 o1 s1 h1 => ?_
  obtain ⟨d, fd, h2⟩ := see_of r1 o1 h1
  cases d with
  | int i => exact ⟨i, fd, h2 H1 F1 S1 r1 (s1.weak fun z => by rw [show quiets mus [a] = (quiet mus a && true) from rfl, Bool.and_true] at z; exact z)⟩
  | _ => exact h2.elim
theorem SPo.bind {α : Type} {ms : List E} {t : TO} {g : Option Int → M α} {G : Option Int → Hp → Prop} {ok : α → Env → Prop} {ex : Exn → Env → Prop} {q : Bool}
    (m : ∀ e σ F H os vs S T (Q : Option Int → Hp → Prop), Rel X.K F H e σ os vs S T → Post (fun n e' => ∀ H' F' S', Rel X.K F' H' e' σ os vs S' T → Step q H F (S ++ T) H' F' (S' ++ T) → Q n H') (PostX X.K XR W σ os vs T H F (S ++ T)) (bnd (evs mus c ms) cutP e) → t σ H Q)
    (r : Rel X.K F H e σ os vs S T) (h : Post ok ex (bnd (bnd (evs mus c ms) cutP) g e)) (hx : ∀ x e', ex x e' → PostX X.K XR W σ os vs T H F (S ++ T) x e')
    (cc : ∀ p e1 H1 F1 S1, Rel X.K F1 H1 e1 σ os vs S1 T → Step q H F (S ++ T) H1 F1 (S1 ++ T) → Post ok ex (g p e1) → G p H1) : t σ H G := by
  refine m e σ F H os vs S T G r ?_
  rw [bnd] at h
  unfold Out.andThen at h
  cases z : bnd (evs mus c ms) cutP e with
  | ok p e1 => rw [z] at h; exact fun H1 F1 S1 r1 s1 => cc p e1 H1 F1 S1 r1 s1 h
  | exn x e1 => rw [z] at h; exact hx x e1 h
  | bad => rw [z] at h; exact h
theorem se_slc {lo hi : Option Expr} {p2 : Pos} (ha : SE mus c XR W X a ea) (hl : SPo mus c XR W X as lo) (hh : SPo mus c XR W X bs hi) (hd : shallow a = true ∨ (quiets mus as && quiets mus bs) = true) : SE mus c XR W X (.slc a as bs) (.Subscript ea (.Slice lo hi none p2) pos) := by
  obtain ⟨t, p, mm⟩ := ha
  obtain ⟨tl, pl, ml⟩ := hl
  obtain ⟨th, ph, mh⟩ := hh
  refine ⟨_, pe_slice (sl_list.or sl_tupA) p pl ph, fun e σ F H os vs S T Q r h => ?_⟩
  refine mm.opd.bind r h (fun _ _ z => z) fun p e1 x H1 F1 S1 z r1 o1 s1 h1 => ?_
  refine SPo.bind ml r1 h1 (fun x e' hx => PostX.after hx s1) fun l e2 H2 F2 S2 r2 s2 h2 => ?_
  refine SPo.bind mh r2 h2 (fun x e' hx => PostX.after (PostX.after hx s1) s2) fun u e3 H3 F3 S3 r3 s3 h3 => ?_
  have o3 : OpdR X.K F3 H3 σ p x := o1.stay r1 (s2.trans s3) (hd.imp (fun z' => Shal.of z' _ _ _ z) id)
  obtain ⟨d, kd, h4⟩ := keep_of r3 o3 h3
  obtain ⟨z, hz, h5⟩ := post_opt h4
  have fin : ∀ v H' F' Sv, Made X.K F3 H3 z v H' F' Sv → Q v H' := fun v H' F' Sv md => by
    obtain ⟨r4, t4, s4⟩ := r3.made md
    exact h5 v H' F' S3 Sv r4 t4 ((((s1.trans s2).trans s3).trans s4).weak fun z => by
      rw [show quiet mus (.slc a as bs) = (quiet mus a && (quiets mus as && quiets mus bs)) from rfl] at z
      simp only [Bool.and_eq_true] at z ⊢
      exact ⟨⟨⟨z.1, z.2.1⟩, z.2.2⟩, True.intro⟩)
  cases d with
  | list ds =>
    cases hz
    obtain ⟨ad, xs, rfl, sq, f⟩ := kd
    refine .inl ⟨ad, xs, rfl, .inl sq, fun p np => ?_⟩
    rw [← cut_eq]
    exact fin _ _ _ _ (Made.lst np (fun z => r3.tr p z np) (f.cut l u))
  | tuple ds =>
    cases hz
    obtain ⟨ad, xs, rfl, sq, f⟩ := fz_tup (show Fz X.K F3 H3 (.tuple ds) x from kd)
    refine .inr ⟨ad, xs, rfl, sq, fun hw => ?_, fun hw p np => ?_⟩
    · have e1 : cutV xs l u = xs := by
        rw [← cut_eq]
        unfold HW.cut
        rw [cutAt_eq, cutAt_eq, hw.1, hw.2]
        simp
      have e2 : HW.cut ds l u = ds := by
        unfold HW.cut
        rw [cutAt_eq, cutAt_eq, ← f.length, hw.1, hw.2, f.length]
        simp
      rw [e2] at fin
      exact fin _ _ _ _ (Made.fz kd)
    · rw [← cut_eq]
      exact fin _ _ _ _ (Made.tup np (f.cut l u))
  | _ => cases hz
end
end HW
end

section
set_option Elab.async false
set_option linter.all false
set_option maxRecDepth 100000
set_option maxHeartbeats 1000000
/-! # A part of a tree changed in place; methods of lists -/
namespace HW
open PySem PySem.Spec PyProof.Rows L2
section
variable {K : PySem.W.Frag} {F F' F1 : Addr → Prop} {H H' H1 : Hp} {e e' : Env} {σ : L2.St} {os : List OD} {vs : List V} {S S' T A A1 Sv : List Addr}
theorem OwAll.split : ∀ {os : List OD} {xs : List V} {S : List Addr} {j : Nat} {p : OD}, OwAll K F H os xs S → os[j]? = some p → ∃ x A B C, xs[j]? = some x ∧ S = A ++ (B ++ C) ∧ Ow K F H p x B ∧
    (∀ F' H' p' x' B', (∀ b, F b → F' b) → (∀ b u, F b → H b = some u → H' b = some u) → (∀ b u, b ∈ A ++ C → H b = some u → H' b = some u) → Ow K F' H' p' x' B' → OwAll K F' H' (os.set j p') (xs.set j x') (A ++ (B' ++ C)))
  | [], _, _, _, _, _, g => by simp at g
  | o :: os, xs, S, 0, p, ⟨x, r, S1, S2, e1, h1, h2, e2⟩, g => by
    subst e1 e2
    simp at g
    subst g
    exact ⟨x, [], S1, S2, rfl, rfl, h1, fun F' H' p' x' B' a b c d => ⟨x', r, B', S2, rfl, d, OwAll.stay a b os r S2 (fun b u hb => c b u (by simpa using hb)) h2, rfl⟩⟩
  | o :: os, xs, S, j + 1, p, ⟨x, r, S1, S2, e1, h1, h2, e2⟩, g => by
    subst e1 e2
    obtain ⟨y, A, B, C, g1, rfl, g3, g4⟩ := OwAll.split (j := j) h2 (by simpa using g)
    refine ⟨y, S1 ++ A, B, C, by simpa using g1, (List.append_assoc ..).symm, g3, fun F' H' p' x' B' a b c d => ?_⟩
    refine ⟨x, r.set j x', S1, A ++ (B' ++ C), rfl, Ow.stay a b o x S1 (fun b u hb => c b u (by simp [hb])) h1, g4 F' H' p' x' B' a b (fun b u hb => c b u ?_) d, List.append_assoc ..⟩
    rcases List.mem_append.mp hb with z | z <;> simp [z]
theorem look_set {α : Type} {k : PyData} {y : Key} (h : keyR k y) : ∀ {ks : List PyData} {es : List (Key × V)} {os : List OD} {o : OD}, keysR ks (es.map (·.1)) → look ks os k = some o → ∃ (i : Nat) (pr : Key × V), es[i]? = some pr ∧ os[i]? = some o ∧ valV es y = some pr.2 ∧ ∀ p, setKV ks os k p = (ks, os.set i p)
  | [], es, os, o, hk, g => by simp [look] at g
  | z :: ks, es, [], o, hk, g => by simp [look] at g
  | z :: ks, [], q :: os, o, hk, g => by obtain ⟨y', r, e, _⟩ := hk; cases e
  | z :: ks, pr :: es, q :: os, o, hk, g => by
    obtain ⟨y', r, e, h1, h2⟩ := hk
    rw [List.map_cons] at e
    injection e with e1 e2
    subst e1 e2
    have eq := keyR_eqv h1 h
    by_cases c : pr.1 = y
    · have ez : PyData.eqv z k = true := by rw [eq]; exact decide_eq_true c
      have g' : (if PyData.eqv z k = true then some q else look ks os k) = some o := g
      rw [if_pos ez] at g'
      cases g'
      refine ⟨0, pr, rfl, rfl, ?_, fun p => ?_⟩
      · have := keysR_look (ks := z :: ks) (es := pr :: es) (os := q :: os) h ⟨_, _, rfl, h1, h2⟩ (show look (z :: ks) (q :: os) k = some q by show (if PyData.eqv z k = true then some q else look ks os k) = some q; rw [if_pos ez])
        obtain ⟨i, p, e1, e2, e3⟩ := this
        rw [e3]
        have v0 : valV (pr :: es) y = some pr.2 := by
          unfold valV
          simp [c]
        rw [← e3, v0]
      · show (if PyData.eqv z k = true then (z :: ks, p :: os) else _) = _
        rw [if_pos ez]; rfl
    · have ez : ¬ PyData.eqv z k = true := by rw [eq]; simp [c]
      have g' : (if PyData.eqv z k = true then some q else look ks os k) = some o := g
      rw [if_neg ez] at g'
      obtain ⟨i, p, e1, e2, e3, e4⟩ := look_set (α := α) h h2 g'
      refine ⟨i + 1, p, by simpa using e1, by simpa using e2, ?_, fun p' => ?_⟩
      · rw [← e3]
        unfold valV
        simp [c]
      · show (if PyData.eqv z k = true then (z :: ks, p' :: os) else (z :: (setKV ks os k p').1, q :: (setKV ks os k p').2)) = _
        rw [if_neg ez, e4]; rfl
theorem perm_mid {A B C : List Addr} : (A ++ (B ++ C)).Perm (B ++ (A ++ C)) := List.perm_append_comm_assoc A B C
/-- a child of a tree, out and in again: R are the other places -/
theorem Ow.putKid {o p : OD} {k : PyData} {v w : V} {a : Addr} {B : List Addr} (h : Ow K F H o v B) (g : HW.kid o k = some p) (ea : v = .ref a) (kv : KidV H a k w) :
    ∃ Bp R, Ow K F H p w Bp ∧ B.Perm (Bp ++ R) ∧ ∀ (F' : Addr → Prop) H' p' Bp' o', (∀ b, F b → F' b) → (∀ b u, F b → H b = some u → H' b = some u) → (∀ b u, b ∈ R → H b = some u → H' b = some u) → Ow K F' H' p' w Bp' → setKid o k p' = some o' → ∃ B', B'.Perm (Bp' ++ R) ∧ Ow K F' H' o' v B' := by
  subst ea
  have mid : ∀ (a : Addr) (A B C : List Addr), (a :: (A ++ (B ++ C))).Perm (B ++ (a :: (A ++ C))) := fun a A B C => by
    have := perm_mid (A := a :: A) (B := B) (C := C)
    simpa only [List.cons_append] using this
  cases o with
  | fz d => cases g
  | lst os =>
    obtain ⟨a', xs, S', e, h1, h2, rfl⟩ := h
    cases e
    cases k with
    | int i =>
      obtain ⟨j, e1, e2⟩ := Option.bind_eq_some_iff.mp (show (place os.length i).bind (fun j => os[j]?) = some p from g)
      obtain ⟨x, A, B, C, g1, rfl, g3, g4⟩ := h2.split e2
      rcases kv with ⟨xs', i', k1, k2, k3⟩ | ⟨es, y, k1, _⟩
      · rw [h1] at k1; cases k1
        cases k2
        unfold item at k3
        rw [h2.length, e1] at k3
        have : xs[j]? = some w := k3
        rw [g1] at this; cases this
        refine ⟨B, a :: (A ++ C), g3, mid .., fun F' H' p' Bp' o' hF kF kR ow eo => ?_⟩
        obtain ⟨j', e1', rfl⟩ := Option.map_eq_some_iff.mp (show (place os.length i).map (fun j => OD.lst (os.set j p')) = some o' from eo)
        rw [e1] at e1'; cases e1'
        have al := g4 F' H' p' w Bp' hF kF (fun b u hb hu => kR b u (List.mem_cons_of_mem _ hb) hu) ow
        rw [set_same g1] at al
        exact ⟨a :: (A ++ (Bp' ++ C)), mid .., ⟨a, xs, _, rfl, kR a _ List.mem_cons_self h1, al, rfl⟩⟩
      · rw [h1] at k1; cases k1
    | _ => cases g
  | dct ks os =>
    have g : (if keyOk k = true then look ks os k else none) = some p := by cases k <;> exact g
    split at g
    · rename_i c
      obtain ⟨a', es, S', e, h1, hk, h2, rfl⟩ := h
      cases e
      rcases kv with ⟨xs', i', k1, _⟩ | ⟨es', y, k1, k2, k3⟩
      · rw [h1] at k1; cases k1
      · rw [h1] at k1; cases k1
        obtain ⟨i, pr, e1, e2, e3, e4⟩ := look_set (α := Nat) k2 hk g
        obtain ⟨x, A, B, C, g1, rfl, g3, g4⟩ := h2.split e2
        rw [k3] at e3; cases e3
        rw [List.getElem?_map, e1] at g1
        cases g1
        refine ⟨B, a :: (A ++ C), g3, mid .., fun F' H' p' Bp' o' hF kF kR ow eo => ?_⟩
        have eo : (if keyOk k = true ∧ (look ks os k).isSome = true then some (OD.dct (setKV ks os k p').1 (setKV ks os k p').2) else none) = some o' := by cases k <;> exact eo
        rw [if_pos ⟨c, by rw [g]; rfl⟩, e4] at eo
        cases eo
        have al := g4 F' H' p' _ Bp' hF kF (fun b u hb hu => kR b u (List.mem_cons_of_mem _ hb) hu) ow
        rw [set_same (l := es.map (·.2)) (by rw [List.getElem?_map, e1]; rfl)] at al
        exact ⟨a :: (A ++ (Bp' ++ C)), mid .., ⟨a, es, _, rfl, kR a _ List.mem_cons_self h1, hk, al, rfl⟩⟩
    · cases g
  | ins c fs os => exact h.elim
theorem Ow.put : ∀ {ks : List PyData} {o p : OD} {v w : V} {B : List Addr}, Ow K F H o v B → getAt o ks = some p → PathV H v ks w →
    ∃ Bp R, Ow K F H p w Bp ∧ B.Perm (Bp ++ R) ∧ ∀ (F' : Addr → Prop) H' p' Bp' o', (∀ b, F b → F' b) → (∀ b u, F b → H b = some u → H' b = some u) → (∀ b u, b ∈ R → H b = some u → H' b = some u) → Ow K F' H' p' w Bp' → setAt o ks p' = some o' → ∃ B', B'.Perm (Bp' ++ R) ∧ Ow K F' H' o' v B'
  | [], o, p, v, w, B, h, g, pv => by
    cases g
    obtain rfl : w = v := pv
    refine ⟨B, [], h, by rw [List.append_nil], fun F' H' p' Bp' o' hF kF kR ow eo => ?_⟩
    cases eo
    exact ⟨Bp', by rw [List.append_nil], ow⟩
  | k :: ks, o, p, v, w, B, h, g, ⟨a, v', ea, kv, pv⟩ => by
    obtain ⟨o1, g1, g2⟩ := Option.bind_eq_some_iff.mp (show (HW.kid o k).bind (fun p => getAt p ks) = some p from g)
    obtain ⟨B1, R1, h1, p1, f1⟩ := h.putKid g1 ea kv
    obtain ⟨B2, R2, h2, p2, f2⟩ := Ow.put h1 g2 pv
    refine ⟨B2, R2 ++ R1, h2, ?_, fun F' H' p' Bp' o' hF kF kR ow eo => ?_⟩
    · refine p1.trans ?_
      rw [← List.append_assoc]
      exact p2.append_right R1
    · obtain ⟨q, e1, e2⟩ := Option.bind_eq_some_iff.mp (show (HW.kid o k).bind (fun q => (setAt q ks p').bind fun q' => setKid o k q') = some o' from eo)
      rw [g1] at e1; cases e1
      obtain ⟨q', e3, e4⟩ := Option.bind_eq_some_iff.mp e2
      obtain ⟨B1', p3, ow1⟩ := f2 F' H' p' Bp' q' hF kF (fun b u hb => kR b u (List.mem_append_left _ hb)) ow e3
      obtain ⟨B', p4, ow2⟩ := f1 F' H' q' B1' o' hF kF (fun b u hb => kR b u (List.mem_append_right _ hb)) ow1 e4
      refine ⟨B', p4.trans ?_, ow2⟩
      rw [← List.append_assoc]
      exact p3.append_right R1
/-- .. of a slot, when it comes back changed; Sv: what comes beside it -/
theorem Rel.put (r : Rel K F H e σ os vs S T) {i : Nat} {ks : List PyData} {o p : OD} {w : V} (g : e[i]? = some (some o)) (o1 : OpdR K F H σ (.at i ks) w) (gp : getAt o ks = some p) :
    ∃ Bp, Ow K F H p w Bp ∧ (∀ b ∈ Bp, b ∈ S) ∧ Bp.Nodup ∧ (∀ b ∈ Bp, ¬ F b) ∧ ∀ (F' : Addr → Prop) (H' : Hp) (p' : OD) (Bp' Sv : List Addr) (o' z : OD) (v : V), Step false H F Bp H' F' (Sv ++ Bp') → (∀ b, F' b → H' b ≠ none) → (Sv ++ Bp').Nodup → (∀ b ∈ Sv ++ Bp', ¬ F' b) → Ow K F' H' p' w Bp' → Ow K F' H' z v Sv → setAt o ks p' = some o' →
      ∃ S', Rel K F' H' (e.set i (some o')) σ os vs S' T ∧ Top K F' H' z v S' Sv T ∧ Step false H F (S ++ T) H' F' (S' ++ (Sv ++ T)) := by
  obtain ⟨v0, hv, pv⟩ := o1
  obtain ⟨v, A, B, C, e1, rfl, e3, e4, _⟩ := r.sl.split g
  rw [hv] at e1; cases e1
  obtain ⟨Bp, R, h1, p1, f1⟩ := e3.put gp pv
  have pS : (A ++ (B ++ C)).Perm (Bp ++ (R ++ (A ++ C))) := by
    refine perm_mid.trans ?_
    rw [← List.append_assoc Bp R]
    exact p1.append_right _
  have pT : (A ++ (B ++ C) ++ T).Perm (Bp ++ ((R ++ (A ++ C)) ++ T)) := by
    rw [← List.append_assoc Bp]
    exact pS.append_right T
  have nd : (Bp ++ ((R ++ (A ++ C)) ++ T)).Nodup := (List.Perm.nodup_iff pT).mp r.nd
  obtain ⟨n1, n2, n3⟩ := List.nodup_append.mp nd
  have mS : ∀ b ∈ Bp, b ∈ A ++ (B ++ C) := fun b hb => pS.mem_iff.mpr (List.mem_append_left _ hb)
  have tr : ∀ b ∈ A ++ (B ++ C) ++ T, H b ≠ none := fun b hb => (List.mem_append.mp hb).elim (OwS.trk r.sl b) (OwAll.trk r.tm b)
  have mO : ∀ b ∈ (R ++ (A ++ C)) ++ T, b ∈ A ++ (B ++ C) ++ T := fun b hb => pT.mem_iff.mpr (List.mem_append_right _ hb)
  have nO : ∀ b ∈ (R ++ (A ++ C)) ++ T, b ∉ Bp := fun b hb z => n3 b z b hb rfl
  refine ⟨Bp, h1, mS, n1, fun b hb => r.ap b (List.mem_append_left _ (mS b hb)), fun F' H' p' Bp' Sv o' z v st ft nd' nf' ow owz so => ?_⟩
  have kF : ∀ b u, F b → H b = some u → H' b = some u := fun b u hf hu => st.keep b u hu (.inr fun z => r.ap b (List.mem_append_left _ (mS b z)) hf)
  have kO : ∀ b u, b ∈ (R ++ (A ++ C)) ++ T → H b = some u → H' b = some u := fun b u hb hu => st.keep b u hu (.inr (nO b hb))
  obtain ⟨B', pB, owB⟩ := f1 F' H' p' Bp' o' st.fm kF (fun b u hb hu => kO b u (by simp [hb]) hu) ow so
  have sl := e4 F' H' o' v0 B' st.fm kF (fun b u hb hu => kO b u (by
    rcases List.mem_append.mp hb with z | z <;> simp [z]) hu) owB
  rw [set_same hv] at sl
  have nF : ∀ b ∈ (R ++ (A ++ C)) ++ T, ¬ F' b := fun b hb z => by
    rcases st.fn b z with z | z | z
    · exact r.ap b (mO b hb) z
    · exact nO b hb z
    · exact tr b (mO b hb) z
  have nN : ∀ b ∈ (R ++ (A ++ C)) ++ T, b ∉ Sv ++ Bp' := fun b hb z => by
    rcases st.sn b z with z | z
    · exact nO b hb z
    · exact tr b (mO b hb) z
  have pS' : (A ++ (B' ++ C)).Perm (Bp' ++ (R ++ (A ++ C))) := by
    refine perm_mid.trans ?_
    rw [← List.append_assoc Bp' R]
    exact pB.append_right _
  -- all of it
  have pA : ((A ++ (B' ++ C)) ++ (Sv ++ T)).Perm ((Sv ++ Bp') ++ ((R ++ (A ++ C)) ++ T)) := by
    have a1 : ((A ++ (B' ++ C)) ++ (Sv ++ T)).Perm ((Bp' ++ (R ++ (A ++ C))) ++ (Sv ++ T)) := pS'.append_right _
    refine a1.trans ?_
    have a2 : ((Bp' ++ (R ++ (A ++ C))) ++ (Sv ++ T)).Perm (Sv ++ ((Bp' ++ (R ++ (A ++ C))) ++ T)) := perm_mid
    refine a2.trans ?_
    simp only [List.append_assoc]
    exact List.Perm.refl _
  have ndA : ((A ++ (B' ++ C)) ++ (Sv ++ T)).Nodup := (List.Perm.nodup_iff pA).mpr (List.nodup_append.mpr ⟨nd', n2, fun b hb b' hb' e => nN b' hb' (e ▸ hb)⟩)
  have apA : ∀ b ∈ (A ++ (B' ++ C)) ++ (Sv ++ T), ¬ F' b := fun b hb => (List.mem_append.mp (pA.mem_iff.mp hb)).elim (nf' b) (nF b)
  have sub : ((A ++ (B' ++ C)) ++ T).Sublist ((A ++ (B' ++ C)) ++ (Sv ++ T)) := List.Sublist.append_left (List.sublist_append_right Sv T) _
  refine ⟨A ++ (B' ++ C), ⟨sl, OwAll.stay st.fm kF os vs T (fun b u hb hu => kO b u (by simp [hb]) hu) r.tm, ndA.sublist sub, fun b hb => apA b (sub.subset hb), ft⟩, ⟨owz, ndA, fun b hb => apA b (by simp [hb])⟩, ⟨fun b u hu z => ?_, st.trk, st.fm, fun b z => ?_, fun b hb => ?_⟩⟩
  · rcases z with z | z
    · cases z
    · exact st.keep b u hu (.inr fun z' => z (List.mem_append_left _ (mS b z')))
  · rcases st.fn b z with z | z | z
    · exact .inl z
    · exact .inr (.inl (List.mem_append_left _ (mS b z)))
    · exact .inr (.inr z)
  · rcases List.mem_append.mp (pA.mem_iff.mp hb) with z | z
    · rcases st.sn b z with z | z
      · exact .inl (List.mem_append_left _ (mS b z))
      · exact .inr z
    · exact .inl (mO b z)
theorem OwAll.snocF {d : PyData} {y : V} (hd : Fz K F H d y) : ∀ {os : List OD} {xs : List V} {S : List Addr}, OwAll K F H os xs S → OwAll K F H (os ++ [.fz d]) (xs ++ [y]) S
  | [], _, _, h => by
    obtain ⟨rfl, rfl⟩ := h
    exact ⟨y, [], [], [], rfl, ⟨hd, rfl⟩, ⟨rfl, rfl⟩, rfl⟩
  | o :: os, _, _, ⟨x, r, S1, S2, e1, h1, h2, e2⟩ => by
    subst e1 e2
    exact ⟨x, r ++ [y], S1, S2, rfl, h1, OwAll.snocF hd h2, rfl⟩
theorem OwAll.erase : ∀ {os : List OD} {xs : List V} {S : List Addr} {j : Nat} {d : PyData}, OwAll K F H os xs S → os[j]? = some (.fz d) → ∃ y, xs[j]? = some y ∧ Fz K F H d y ∧ OwAll K F H (os.eraseIdx j) (xs.eraseIdx j) S
  | [], _, _, _, _, _, g => by simp at g
  | o :: os, _, _, 0, d, ⟨x, r, S1, S2, e1, h1, h2, e2⟩, g => by
    subst e1 e2
    simp at g
    subst g
    obtain ⟨h3, rfl⟩ := h1
    exact ⟨x, rfl, h3, h2⟩
  | o :: os, _, _, j + 1, d, ⟨x, r, S1, S2, e1, h1, h2, e2⟩, g => by
    subst e1 e2
    obtain ⟨y, g1, g2, g3⟩ := OwAll.erase (j := j) h2 (by simpa using g)
    exact ⟨y, by simpa using g1, g2, x, _, S1, S2, rfl, h1, g3, rfl⟩
end
def mtId : Mt → String
  | .append => "list.append"
  | .pop | .popAt => "list.pop"
  | .insert => "list.insert"
  | .extend => "list.extend"
  | .remove => "list.remove"
def Mt.live : Mt → Bool
  | .append | .pop | .popAt | .insert => true
  | _ => false
def rMt (K : PySem.W.Frag) (m : Mt) : V → List V → Hp → VK → Prop := fun x vs H Q => m.live = true ∧ ∃ (F : Addr → Prop) (p : OD) (ds : List PyData) (z : PyData × OD) (Bp : List Addr), Ow K F H p x Bp ∧ FzAll K F H ds vs ∧ Bp.Nodup ∧ (∀ b ∈ Bp, ¬ F b) ∧ methD m p ds = some z ∧
  ∀ v H', Fz K F H' z.1 v → Ow K F H' z.2 x Bp → (∀ b u, H b = some u → b ∉ Bp → H' b = some u) → (∀ b, H b ≠ none → H' b ≠ none) → Q v H'
section
variable {X : Cx}
theorem upd_trk {H : Hp} {a : Addr} {o : HO} : ∀ b, H b ≠ none → upd H a o b ≠ none := fun b h => by
  by_cases c : b = a
  · rw [c, upd_same]; exact fun z => nomatch z
  · rw [upd_ne c]; exact h
theorem mt_any (m : Mt) : MtR X (mtId m) (rMt X.K m) := by
  intro pins s σ H x vs v us Q I rx rv ⟨hl, F, p, ds, z, Bp, ow, fz, nd, nf, hz, q⟩
  have up : ∀ {a : Addr} {S' : List Addr} {xs : List V}, Bp = a :: S' → (∀ b u, H b = some u → b ∉ Bp → upd H a (.lst xs) b = some u) ∧ (∀ b u, b ∈ S' → H b = some u → upd H a (.lst xs) b = some u) ∧ ∀ b u, F b → H b = some u → upd H a (.lst xs) b = some u := by
    rintro a S' xs rfl
    obtain ⟨n1, n2⟩ := List.nodup_cons.mp nd
    refine ⟨fun b u hu hb => ?_, fun b u hb hu => ?_, fun b u hf hu => ?_⟩ <;> rw [upd_ne] <;> try exact hu
    · rintro rfl; exact hb List.mem_cons_self
    · rintro rfl; exact n1 hb
    · rintro rfl; exact nf b List.mem_cons_self hf
  cases p with
  | fz d => cases m <;> cases hz
  | dct _ _ => cases m <;> cases hz
  | ins _ _ _ => cases m <;> cases hz
  | lst os =>
    obtain ⟨a, xs, S', rfl, h1, h2, eB⟩ := ow
    have ln := h2.length
    have fin : ∀ (os' : List OD) (xs' : List V) (r : PyData) (y : V), z = (r, .lst os') → Fz X.K F H r y → OwAll X.K F H os' xs' S' → Q y (upd H a (.lst xs')) := by
      rintro os' xs' r y rfl hr h3
      obtain ⟨u1, u2, u3⟩ := up (xs := xs') eB
      exact q y _ (Fz.mono (fun _ z => z) u3 r y hr) ⟨a, xs', S', rfl, upd_same, OwAll.stay (fun _ z => z) u3 os' xs' S' u2 h3, eB⟩ u1 upd_trk
    cases m with
    | append =>
      match ds, hz with
      | [d], hz =>
        have hz : (if os.length < lim then some (PyData.none, OD.lst (os ++ [.fz d])) else none) = some z := hz
        split at hz
        · rename_i c
          cases hz
          obtain ⟨y, rfl, fy⟩ := one_of fz
          exact mt_append pins s σ H _ _ v us Q I rx rv ⟨a, xs, y, rfl, rfl, h1, by rw [ln, ← lim_eq]; exact c, fin _ _ _ .non rfl rfl (h2.snocF fy)⟩
        · cases hz
    | pop =>
      match ds, hz with
      | [], hz =>
        obtain ⟨p, e1, e2⟩ := Option.bind_eq_some_iff.mp (show os.getLast?.bind (fun p => (isFz p).map fun d => (d, OD.lst os.dropLast)) = some z from hz)
        obtain ⟨d, e3, rfl⟩ := Option.map_eq_some_iff.mp e2
        cases p with
        | fz d' =>
          cases e3
          cases (show vs = [] from fz)
          rw [List.getLast?_eq_getElem?] at e1
          obtain ⟨y, g1, g2, g3⟩ := h2.erase e1
          rw [← ln] at g1 g3
          have e4 : xs.eraseIdx (xs.length - 1) = xs.dropLast := List.eraseIdx_length_sub_one
          have e5 : os.eraseIdx (xs.length - 1) = os.dropLast := by rw [ln]; exact List.eraseIdx_length_sub_one
          rw [e4, e5] at g3
          exact mt_pop pins s σ H _ _ v us Q I rx rv ⟨a, xs, y, rfl, rfl, h1, g1, fin _ _ _ y rfl g2 g3⟩
        | _ => cases e3
    | popAt =>
      match ds, hz with
      | [.int i], hz =>
        have hz : (if -(2 ^ 63) ≤ i ∧ i < 2 ^ 63 then (place os.length i).bind fun j => (os[j]?).bind fun p => (isFz p).map fun d => (d, OD.lst (os.eraseIdx j)) else none) = some z := hz
        split at hz
        · rename_i c
          obtain ⟨j, e0, e1⟩ := Option.bind_eq_some_iff.mp hz
          obtain ⟨p, e1, e2⟩ := Option.bind_eq_some_iff.mp e1
          obtain ⟨d, e3, rfl⟩ := Option.map_eq_some_iff.mp e2
          cases p with
          | fz d' =>
            cases e3
            obtain ⟨y, rfl, fy⟩ := one_of fz
            cases (show y = .int i from fy)
            obtain ⟨y, g1, g2, g3⟩ := h2.erase e1
            refine mt_popAt pins s σ H _ _ v us Q I rx rv ⟨a, xs, i, j, y, rfl, rfl, h1, c.1, c.2, ?_, g1, fin _ _ _ y rfl g2 g3⟩
            rw [ln]
            unfold place at e0
            unfold seqIndex?
            split at e0
            · split at e0
              · cases e0
                simp_all
                omega
              · cases e0
            · split at e0
              · cases e0
                simp_all
                omega
              · cases e0
          | _ => cases e3
        · cases hz
    | insert =>
      match ds, hz with
      | [.int i, d], hz =>
        have hz : (if i = 0 ∧ os.length < lim then some (PyData.none, OD.lst (.fz d :: os)) else none) = some z := hz
        split at hz
        · rename_i c
          cases hz
          obtain ⟨y0, y, rfl, f0, fy⟩ := two_of fz
          cases (show y0 = .int i from f0)
          obtain ⟨rfl, c⟩ := c
          refine mt_insert pins s σ H _ _ v us Q I rx rv ⟨a, xs, 0, y, rfl, rfl, h1, by rw [ln, ← lim_eq]; exact c, Int.le_refl 0, by decide, ?_⟩
          exact fin _ _ _ .non rfl rfl ⟨y, xs, [], S', rfl, ⟨fy, rfl⟩, h2, rfl⟩
        · cases hz
    | extend => cases hl
    | remove => cases hl
end
end HW
end

section
set_option Elab.async false
set_option linter.all false
set_option maxRecDepth 100000
set_option maxHeartbeats 1000000
/-! # Methods called -/
namespace HW
open PySem PySem.Spec PyProof.Rows L2
section
variable {mus : Nat → Option Nat} {c : CallF} {XR : XRel} {W : WX} {X : Cx} {m a b d i : E} {as bs : List E} {ea eb ec ed : Expr} {es : List Expr} {pos : Pos} {k : Nat}
variable {F F' F1 : Addr → Prop} {H H' H1 : Hp} {e e' : Env} {σ : L2.St} {os : List OD} {vs : List V} {S S' T A A1 Sv : List Addr}
def methK (m : Mt) (ds : List PyData) : Rv → M Rv
  | .at i ks => do
    let r ← slot i
    let o ← opt (getAt r ks)
    let x ← opt (methD m o ds)
    let r' ← opt (setAt r ks x.2)
    setSlot i r'
    ret (.tmp (.fz x.1))
  | .tmp _ => bad
theorem post_slot {β : Type} {i : Nat} {k : OD → M β} {ok : β → Env → Prop} {ex : Exn → Env → Prop} (h : Post ok ex (bnd (slot i) k e)) : ∃ o, e[i]? = some (some o) ∧ Post ok ex (k o e) := by
  rcases post_bnd h with ⟨o, e1, h1, h2⟩ | ⟨x, e1, h1, _⟩
  · obtain ⟨rfl, g⟩ := slot_of h1
    exact ⟨o, g, h2⟩
  · exact (slot_exn h1).elim
theorem post_set {β : Type} {i : Nat} {o : OD} {k : Unit → M β} {ok : β → Env → Prop} {ex : Exn → Env → Prop} (h : Post ok ex (bnd (setSlot i o) k e)) : i < e.length ∧ Post ok ex (k () (e.set i (some o))) := by
  rcases post_bnd h with ⟨u, e1, h1, h2⟩ | ⟨x, e1, h1, _⟩
  · obtain ⟨l, rfl⟩ := setSlot_of h1
    exact ⟨l, h2⟩
  · exact (setSlot_exn h1).elim
/-- what stands at the place is a list -/
theorem isLst_of {β : Type} {p : Rv} {k : Unit → M β} {ok : β → Env → Prop} {ex : Exn → Env → Prop} (h : Post ok ex (bnd (isLst p) k e)) : ∃ i ks os', p = .at i ks ∧ slotAt i ks e = .ok (.lst os') e ∧ Post ok ex (k () e) := by
  cases p with
  | tmp o => exact h.elim
  | «at» i ks =>
    have h' : Post ok ex (bnd (bnd (slotAt i ks) fun o => match o with | .lst _ => ret () | _ => bad) k e) := h
    cases z : slotAt i ks e with
    | exn x e1 => exact (slotAt_exn z).elim
    | bad =>
      unfold bnd Out.andThen at h'
      rw [z] at h'
      exact h'.elim
    | ok o e1 =>
      have e1e : e1 = e := by
        obtain ⟨o', e2, z1, z2⟩ := bnd_ok (m := slot i) (k := fun o => opt (getAt o ks)) z
        obtain ⟨rfl, _⟩ := slot_of z1
        exact (opt_of z2).1
      subst e1e
      unfold bnd Out.andThen at h'
      rw [z] at h'
      cases o with
      | lst os' => exact ⟨i, ks, os', rfl, z, h'⟩
      | _ => exact h'.elim
/-- what a method call does, behind its arguments -/
theorem meth_end {q1 : Bool} {m : Mt} {i : Nat} {ks : List PyData} {ds : List PyData} {x : V} {xs : List V} {H0 : Hp} {F0 : Addr → Prop} {A0 : List Addr} {Q : VK} (hl : m.live = true) (r : Rel X.K F H e σ os vs S T) (o1 : OpdR X.K F H σ (.at i ks) x) (f : FzAll X.K F H ds xs) (s : Step q1 H0 F0 A0 H F (S ++ T))
    (h : Post (OkR X.K σ os vs T false Q H0 F0 A0) (PostX X.K XR W σ os vs T H0 F0 A0) (methK m ds (.at i ks) e)) : rMt X.K m x xs H Q := by
  obtain ⟨o, g, h1⟩ := post_slot h
  obtain ⟨p, gp, h2⟩ := post_opt h1
  obtain ⟨z, hz, h3⟩ := post_opt h2
  obtain ⟨o', so, h4⟩ := post_opt h3
  obtain ⟨l, h5⟩ := post_set h4
  obtain ⟨Bp, ow, sB, nB, fB, up⟩ := r.put g o1 gp
  refine ⟨hl, F, p, ds, z, Bp, ow, f, nB, fB, hz, fun v H' fv ow' kk kn => ?_⟩
  obtain ⟨S', r', t', s'⟩ := up F H' z.2 Bp [] o' (.fz z.1) v ⟨fun b u hu hb => kk b u hu (hb.elim (fun z => nomatch z) id), kn, fun _ z => z, fun _ z => .inl z, fun _ z => .inl z⟩ (fun b z => kn b (r.tr b z)) nB fB ow' ⟨fv, rfl⟩ so
  exact h5 v H' F S' [] r' t' ((s.trans s').weak fun z => by cases z)
theorem mr_meth {m : Mt} {ta : TE} {t : TA} (hl : m.live = true) (ma : MR X.K XR W (quiet mus a) ta (ev mus c a)) (mm : MOs X.K XR W (quiets mus as) t (evs mus c as)) (hd : shallow a = true ∨ quiets mus as = true) :
    MR X.K XR W false (tBM X.K "list" (rMt X.K m) ta t) (ev mus c (.meth m a as)) := fun e σ F H os vs S T Q r h => by
  have h : Post _ _ (bnd (ev mus c a) (fun p => bnd (isLst p) fun _ => bnd (evs mus c as) fun ps => bnd (giveAll ps) fun ds => methK m ds p) e) := h
  have hx : ∀ x e', PostX X.K XR W σ os vs T H F (S ++ T) x e' → PostX X.K XR W σ os vs T H F (S ++ T) x e' := fun _ _ z => z
  have key : ∀ rv e1, ev mus c a e = .ok rv e1 → ∀ i ks, rv = .at i ks → shallow a = true → ks = [] := fun rv e1 z i ks er sh => shal_of_shallow a e i ks e1 sh (by rw [← er]; exact z)
  -- the receiver
  have ma' := ma e σ F H os vs S T
  refine ma' _ r ?_
  cases z : ev mus c a e with
  | exn x e1 => unfold bnd Out.andThen at h; rw [z] at h; exact h
  | bad => unfold bnd Out.andThen at h; rw [z] at h; exact h
  | ok rv e1 =>
    unfold bnd at h
    rw [z] at h
    have h : Post _ _ (bnd (isLst rv) (fun _ => bnd (evs mus c as) fun ps => bnd (giveAll ps) fun ds => methK m ds rv) e1) := h
    obtain ⟨i, ks, os', rfl, sl, h1⟩ := isLst_of h
    intro x H1 F1 S1 r1 o1 s1
    obtain ⟨_, o, v0, g0, hv, gp, B, B', q1, q2, q3, q4⟩ := at_of r1 o1 sl
    obtain ⟨ad, xs, S'', rfl, hH, _, _⟩ := q2
    refine ⟨.inl ⟨rfl, xs, .inl (.inl hH)⟩, ?_⟩
    refine mm.bind r1 h1 (fun x e' hx => PostX.after hx s1) fun ps e2 ws H2 F2 S2 r2 o2 s2 h2 => ?_
    have o1' := o1.stay r1 s2 (hd.imp (fun sh i' ks' er => by cases er; exact key _ e1 z _ _ rfl sh) id)
    obtain ⟨ds, e3, F3, S3, r3, f3, s3, h3⟩ := giveAll_of r2 o2 h2
    have o3 : OpdR X.K F3 H2 σ (.at i ks) (.ref ad) := o1'
    exact meth_end hl r3 o3 f3 ((s1.trans s2).trans s3) h3
theorem mr_meth0 {m : Mt} {ta : TE} (hl : m.live = true) (ma : MR X.K XR W (quiet mus a) ta (ev mus c a)) :
    MR X.K XR W false (tBM0 X.K "list" (rMt X.K m) ta) (ev mus c (.meth m a [])) := fun e σ F H os vs S T Q r h => by
  have h : Post _ _ (bnd (ev mus c a) (fun p => bnd (isLst p) fun _ => bnd (ret []) fun ps => bnd (giveAll ps) fun ds => methK m ds p) e) := h
  refine ma e σ F H os vs S T _ r ?_
  cases z : ev mus c a e with
  | exn x e1 => unfold bnd Out.andThen at h; rw [z] at h; exact h
  | bad => unfold bnd Out.andThen at h; rw [z] at h; exact h
  | ok rv e1 =>
    unfold bnd at h
    rw [z] at h
    have h : Post _ _ (bnd (isLst rv) (fun _ => bnd (ret []) fun ps => bnd (giveAll ps) fun ds => methK m ds rv) e1) := h
    obtain ⟨i, ks, os', rfl, sl, h1⟩ := isLst_of h
    intro x H1 F1 S1 r1 o1 s1
    obtain ⟨_, o, v0, g0, hv, gp, B, B', q1, q2, q3, q4⟩ := at_of r1 o1 sl
    obtain ⟨ad, xs, S'', rfl, hH, _, _⟩ := q2
    exact ⟨.inl ⟨rfl, xs, .inl (.inl hH)⟩, meth_end hl r1 o1 (show FzAll X.K F1 H1 [] [] from rfl) s1 h1⟩
theorem se_meth {m : Mt} {name : Str} {apos cpos : Pos} (hl : m.live = true) (slot : Slot "list" name (mtId m)) (hty : typeOf (.builtin (mtId m)) = pure (.type "method_descriptor")) (ha : SE mus c XR W X a ea) (hr : SA mus c XR W X as (eb :: es)) (hd : shallow a = true ∨ quiets mus as = true)
    (hbase : attributeBase ea name X.env (eval ea X.env) = eval ea X.env)
    (hfew : ((backTo cpos (starEach (eb :: es) X.env)).all (fun x => !x.1) && (backToKw cpos (keywordEach [] X.env)).all (fun x => x.1.isSome) && decide ((eb :: es).length + ([] : List Keyword).length + (if ([] : List Keyword).isEmpty then 0 else 1) < 30)) = true)
    (hline : (apos.endLine == cpos.line) = true) (hs : starEach (eb :: es) X.env = (false, eval eb X.env) :: starEach es X.env) (hplain : (backTo cpos (starEach es X.env)).any (·.1) = false) :
    SE mus c XR W X (.meth m a as) (.Call (.Attribute ea name apos) (eb :: es) [] cpos) := by
  obtain ⟨ta, pa, ma⟩ := ha
  obtain ⟨t, pt, mt⟩ := hr
  exact ⟨_, pe_bm PySem.F.plainAttrs_list slot hty (mt_any m) pa pt hbase hfew hline hs hplain, mr_meth hl ma mt hd⟩
theorem se_meth0 {m : Mt} {name : Str} {apos cpos : Pos} (hl : m.live = true) (slot : Slot "list" name (mtId m)) (hty : typeOf (.builtin (mtId m)) = pure (.type "method_descriptor")) (ha : SE mus c XR W X a ea)
    (hbase : attributeBase ea name X.env (eval ea X.env) = eval ea X.env) (hline : (apos.endLine == cpos.line) = true) :
    SE mus c XR W X (.meth m a []) (.Call (.Attribute ea name apos) [] [] cpos) := by
  obtain ⟨ta, pa, ma⟩ := ha
  exact ⟨_, pe_bm0 PySem.F.plainAttrs_list slot hty (mt_any m) pa hbase hline, mr_meth0 hl ma⟩
end
end HW
end

section
set_option Elab.async false
set_option linter.all false
set_option maxRecDepth 100000
set_option maxHeartbeats 1000000
/-! # enumerate of a tuple -/
namespace HW
open PySem PySem.Spec PyProof.Rows L2
def enO (p : Addr) (n : Int) : Obj := { cls := .type "enumerate", data := .fields #[.none, .bool false, .ref p, rawInt n, .none, .none] }
theorem meets_en1 {z : Value} {c : Obj} {Hh : Heap → Prop} (bg : Begins z c Hh) :
    Meets (Builtin.«enumerate.__new__» ⟨[.type "enumerate", z], []⟩) (fun _ R s => Hh s.heap ∧ R (.ok (.ret (.ref (s.heap.push c).objs.size))) { s with heap := (s.heap.push c).push (enO s.heap.objs.size 0) }) :=
  .of_wp fun pr wd A R st hyp => by
    obtain ⟨hh, gg, dd, tt, oo⟩ := st
    obtain ⟨g1, g2⟩ := hyp
    have sb := sub_enumerate
    have it1 : ∀ {A' : Around} {E : Value → Shared → Prop} {Q : Value → Shared → Prop}, Q (.ref hh.objs.size) ⟨hh.push c, gg, dd, tt, oo⟩ → wpAny (model pr wd) A' (pyIter z) Q E ⟨hh, gg, dd, tt, oo⟩ :=
      fun qq => bg.iter pr wd _ _ ⟨hh, gg, dd, tt, oo⟩ _ g1 qq
    wp_walk using it1
    refine wpAny_stack_any fun _ => wpAny_pure ?_
    split
    · rename_i kl _ _ _ _ _
      cases (kl == Value.type "enumerate")
      · wp_walk using it1
        exact ⟨_, rfl, g2⟩
      · wp_walk using it1
        exact ⟨_, rfl, g2⟩
    · wp_walk using it1
      exact ⟨_, rfl, g2⟩
theorem call_en1 {prog : Program} {w : World} {A : Around} {E : Value → Shared → Prop} {s : Shared} {z : Value} {c : Obj} {Hh : Heap → Prop} {Q : Value → Shared → Prop} (bg : Begins z c Hh) (h1 : Hh s.heap)
    (h : ∀ h', IsEnum h' (s.heap.objs.size + 1) s.heap.objs.size 0 .none → h'.get? s.heap.objs.size = some c → (∀ b o, s.heap.get? b = some o → h'.get? b = some o) → Q (.ref (s.heap.objs.size + 1)) { s with heap := h' }) :
    wpAny (model prog w) A (call (.type "enumerate") [z]) Q E s := by
  refine callType_new F.called_enumerate (by decide) (F.typeCall_enumerate_1 _) (F.newCall_enumerate_1 _) (fun ob => F.args_object_init_2 ob _) F.entry_enumerate_new (meets_en1 bg) ⟨h1, ?_⟩
  have sz : (s.heap.push c).objs.size = s.heap.objs.size + 1 := Heap.size_push ..
  show _ ∧ _
  rw [sz]
  have en : IsEnum ((s.heap.push c).push (enO s.heap.objs.size 0)) (s.heap.objs.size + 1) s.heap.objs.size 0 .none := by
    have := Heap.get?_push_size (s.heap.push c) (o := enO s.heap.objs.size 0) rfl
    rw [sz] at this
    exact this
  refine ⟨⟨_, en, rfl⟩, h _ en (Heap.get?_push_of_some _ (Heap.get?_push_size _ bg.free)) fun b o x => Heap.get?_push_of_some _ (Heap.get?_push_of_some _ x)⟩
/-- the items of the tuple at a, each behind its number, in a new pair -/
def ItT (K : PySem.W.Frag) (a : Addr) : L2.It :=
  ⟨fun i H => ∃ (xs : List V) (x : V), SqT K H a xs ∧ xs[i]? = some x, fun i H v H' => ∃ t x, v = .ref t ∧ H t = none ∧ H' = upd H t (.tup [.int (i : Nat), x]) ∧ ∀ xs, SqT K H a xs → xs[i]? = some x, fun i H => ∃ xs : List V, SqT K H a xs ∧ xs.length ≤ i⟩
theorem turn_enT {P : Program} {w : World} {K : PySem.W.Frag} {elts : List Expr} {kk : Nat} {tpos : Pos} (a e d : Addr) :
    Turn P w K (.Tuple elts kk tpos) (ItT K a) [e, d] e (fun i h => (∃ old, IsEnum h e d ((i : Nat) : Int) old) ∧ h.IsTupleIter d a i ∧ e ≠ d) where
  mem := by simp
  obj := fun i h st b hb => by
    obtain ⟨⟨old, en⟩, ⟨ob, g1, g2, g3⟩, _⟩ := st
    rcases (by simpa using hb : b = e ∨ b = d) with z | z
    · rw [z]; exact ⟨_, en, fun v q => nomatch q⟩
    · rw [z]; exact ⟨ob, g1, fun v q => by rw [g3] at q; cases q⟩
  keep := fun i h h' st k => ⟨st.1.elim fun old en => ⟨old, k e (by simp) _ en⟩, st.2.1.at fun ob q => k d (by simp) ob q, st.2.2⟩
  item := by
    intro X e1 e2 e3 hc i pins s σ H E I hf st hg
    subst e1 e2 e3
    obtain ⟨⟨old, en⟩, ti, ne⟩ := st
    obtain ⟨xs, x, sq, hx⟩ := hg
    obtain ⟨us, rv, tp, _⟩ := I.tuple sq
    obtain ⟨u, hu, ru⟩ := rv.get hx
    have le : e < s.heap.objs.size := Heap.lt_size en
    have ld : d < s.heap.objs.size := by obtain ⟨_, q, _⟩ := ti; exact Heap.lt_size q
    have tp' : s.heap.IsTuple a us.toArray := tp
    have lt : i < us.toArray.size := by
      rcases Nat.lt_or_ge i us.length with z | z
      · simpa using z
      · rw [List.getElem?_eq_none (by simpa using z)] at hu; cases hu
    have nd : a ≠ d := by
      rintro rfl
      obtain ⟨o1, g1, g2, _⟩ := tp'
      obtain ⟨o2, g3, g4, _⟩ := ti
      rw [g1] at g3; cases g3
      rw [g2] at g4
      exact absurd g4 (by decide)
    by_cases ea : e = a
    · exfalso
      subst ea
      obtain ⟨o1, g1, g2, _⟩ := tp'
      rw [en] at g1; cases g1
      injection (show Value.type "enumerate" = Value.type "tuple" from g2) with g5
      exact absurd g5 (by decide)
    have D := Draws.tuple (prog := X.prog) (w := X.w) (A := X.A.in1) (show X.A.in1.handled = none from I.ok.hd hc) d a nd us.toArray
    refine wpAny_pyNext_enum_itemD D en ⟨ti, tp'⟩ lt ne (by simp [ne, ea]) fun y h1 tk hy out st1 ht hz kp => ?_
    have ey : y = u := by
      have : us.toArray[i]? = some u := by simpa using hu
      rw [this] at hy; exact (Option.some.inj hy).symm
    subst ey
    refine ⟨_, rfl, wpAny_letOwnedTupleGo_enum (s := { s with heap := h1, toks := tk + 1 }) out fun h2 en2 sb => ?_⟩
    have ht2 : h2.get? s.heap.objs.size = some { cls := .type "tuple", data := .seq #[.int i tk, y] } := (sb.2 _ (Nat.ne_of_gt le)).trans ht
    have nw : ObjOk X.prog X.w (upd H s.heap.objs.size (.tup [.int (i : Nat), x])) h2 s.heap.objs.size (.tup [.int (i : Nat), x]) :=
      ⟨by show 2 ≤ sizeLine; decide, [.int i tk, y], .cons ⟨_, rfl⟩ (.cons ru .nil), ⟨_, ht2, rfl, _, rfl⟩⟩
    have I1 : Inv X pins σ (upd H s.heap.objs.size (.tup [.int (i : Nat), x])) { s with heap := h2, toks := tk + 1 } :=
      I.turnedNew (ch := [e, d]) (fun b ob hb q => (sb.2 b (fun z => hb (by simp [z]))).trans (kp b ob (fun z => hb (by simp [z])) (fun z => hb (by simp [z])) q)) hf (Nat.le_refl _) nw
    refine ⟨.ref s.heap.objs.size, _, I1, rfl, ⟨_, x, rfl, I.hok.fresh (Nat.le_refl _), rfl, fun ys hy' => by rw [I.tuple_inj hy' sq]; exact hx⟩, ⟨⟨y, ?_⟩, st1.1.at fun ob q => (sb.2 d (Ne.symm ne)).trans q, ne⟩, fun b hb => ?_⟩
    · rw [show ((i + 1 : Nat) : Int) = (i : Int) + 1 by omega]
      exact en2
    · have lb : b < s.heap.objs.size := by
        rcases (by simpa using hb : b = e ∨ b = d) with z | z <;> rw [z] <;> assumption
      rw [upd_ne (Nat.ne_of_lt lb)]
      exact (hf b hb).1
  done := by
    intro X e1 e2 e3 hc i pins s σ H E I hf st hg
    subst e1 e2 e3
    obtain ⟨⟨old, en⟩, ti, ne⟩ := st
    obtain ⟨xs, sq, hx⟩ := hg
    obtain ⟨us, rv, tp, _⟩ := I.tuple sq
    have tp' : s.heap.IsTuple a us.toArray := tp
    obtain ⟨f0, f1, f2, f3, f4, f5⟩ := hf d (by simp)
    have hl := rv.length
    have nd : a ≠ d := by
      rintro rfl
      obtain ⟨o1, g1, g2, _⟩ := tp'
      obtain ⟨o2, g3, g4, _⟩ := ti
      rw [g1] at g3; cases g3
      rw [g2] at g4
      exact absurd g4 (by decide)
    unfold pyNext
    have hT : s.TypeIs (.ref e) "enumerate" := ⟨_, en, rfl⟩
    refine wpAny_bind (wpAny_attempt (wpAny_callSpecial?_slot (name := Str.ofString "__next__") hT F.slot_enumerate_next (wpAny_call_entry F.slot_enumerate_next hT F.entry_enumerate_next ?_ (F.args_enumerate_next_1 _))))
    show wpAny _ _ (field (.ref e) 2 >>= _) _ _ _
    refine wpAny_bind (wpAny_field en rfl (x := .ref d) rfl ?_)
    refine wpAny_bind (wpAny_nextOf_tuple_end (show X.A.in1.in1.handled = none from I.ok.hd hc) ti tp' (by simp; omega) fun h1 x eb hx' => ?_)
    obtain ⟨ob, g1, g2⟩ := hx'
    refine wpAny_bind (wpAny_isInstance (T := "StopIteration") (b := true) ⟨ob, g1, g2⟩ isSubtype_stop ?_)
    exact wpAny_pure ⟨rfl, I.turned (t' := s.toks) (fun b o hb q => eb b o hb q) f0 f1 f3 f4 f5⟩
  self := fun A i s Q E st h => let ⟨⟨_, en⟩, _⟩ := st; wpAny_pyIter_enum en h
def iEnA (K : PySem.W.Frag) (te : TE) : TI := fun σ H R => te σ H fun v H1 => ∃ a xs, v = .ref a ∧ ((SqL K H1 a xs ∧ R (Ite K a) H1) ∨ (SqT K H1 a xs ∧ R (ItT K a) H1))
def sole (P : V → Hp → Prop) : List V → Hp → Prop
  | [v], H => P v H
  | _, _ => False
theorem sole_of {P : V → Hp → Prop} {vs : List V} {H : Hp} (h : sole P vs H) : ∃ v, vs = [v] ∧ P v H := by
  match vs, h with
  | [v], h => exact ⟨v, rfl, h⟩
theorem pi_enA {X : Cx} {e : Expr} {te : TE} {p pos tpos : Pos} {elts : List Expr} {kk : Nat} (hg : Gl X "enumerate") (hm : X.mg "enumerate" = none) (pe : PE X e te) (hs : starEach [e] X.env = [(false, eval e X.env)]) :
    PI X (.Tuple elts kk tpos) (.Call (.Name "enumerate" p) [e] [] pos) (iEnA X.K te) := by
  refine ⟨fun pins s σ H R I h => ?_⟩
  have h' := (pa_cons pe pa_nil hs).run pos pins s σ H (sole fun v H1 => ∃ a xs, v = .ref a ∧ ((SqL X.K H1 a xs ∧ R (Ite X.K a) H1) ∨ (SqT X.K H1 a xs ∧ R (ItT X.K a) H1))) I h
  refine Call_ (ld_blt I hg hm boot_enumerate (PyProof.Rows.callWith_type1 (thn h' fun us s1 ⟨vs, H1, I1, r1, q1⟩ => ?_) hs rfl))
  obtain ⟨v, rfl, a, xs, rfl, q2⟩ := sole_of q1
  cases r1 with
  | cons r rr =>
    cases rr
    cases r
    have fr : ∀ b, b ∈ [s1.heap.objs.size + 1, s1.heap.objs.size] → FpOk X pins H1 b := fun b hb => by
      have le : s1.heap.objs.size ≤ b := by
        rcases (by simpa using hb : b = s1.heap.objs.size + 1 ∨ b = s1.heap.objs.size) with z | z <;> rw [z]
        · exact Nat.le_add_right _ _
        · exact Nat.le_refl _
      exact I1.fpOk le (I1.hok.fresh le)
    rcases q2 with ⟨sq, q⟩ | ⟨sq, q⟩
    · obtain ⟨us, rv, ls, _⟩ := I1.list sq
      refine call_enumerate_list ls.isList fun h1 en ti _ hk => wpAny_pyIter_enum en ?_
      exact ⟨s1.heap.objs.size + 1, [s1.heap.objs.size + 1, s1.heap.objs.size], _, _, H1, rfl, I1.kept (t' := s1.toks) hk, turn_enum a (s1.heap.objs.size + 1) s1.heap.objs.size, ⟨⟨.none, en⟩, ti, Nat.succ_ne_self _⟩, fr, q⟩
    · obtain ⟨us, rv, tp, _⟩ := I1.tuple sq
      refine call_en1 (begins_tuple a us.toArray) (show s1.heap.IsTuple a us.toArray from tp) fun h1 en ti hk => wpAny_pyIter_enum en ?_
      exact ⟨s1.heap.objs.size + 1, [s1.heap.objs.size + 1, s1.heap.objs.size], _, _, H1, rfl, I1.kept (t' := s1.toks) hk, turn_enT a (s1.heap.objs.size + 1) s1.heap.objs.size, ⟨⟨.none, en⟩, ⟨_, ti, rfl, rfl⟩, Nat.succ_ne_self _⟩, fr, q⟩
end HW
end

section
set_option Elab.async false
set_option linter.all false
set_option maxRecDepth 100000
set_option maxHeartbeats 1000000
/-! # What is walked -/
namespace HW
open PySem PySem.Spec PyProof.Rows L2 RZ RT
/-- the iterator draws the data ds, however the heap grows -/
def IterR (K : PySem.W.Frag) (F : Addr → Prop) (H : Hp) (J : L2.It) (ds : List PyData) : Prop :=
  ∀ (F' : Addr → Prop) (H' : Hp), (∀ b, F b → F' b) → (∀ b o, F b → H b = some o → H' b = some o) →
    (∀ i d, ds[i]? = some d → J.go i H' ∧ ∀ x H'', J.yld i H' x H'' → ∃ F'' : Addr → Prop, (∀ b o, H' b = some o → H'' b = some o) ∧ (∀ b, F' b → F'' b) ∧ (∀ b, F'' b → F' b ∨ (H' b = none ∧ H'' b ≠ none)) ∧ Fz K F'' H'' d x) ∧ J.stop ds.length H'
section
variable (K : PySem.W.Frag) (XR : XRel) (W : WX) (q : Bool)
def MI (wi : TI) (f : M (List PyData)) : Prop := ∀ e σ F H os vs S T (R : L2.It → Hp → Prop), Rel K F H e σ os vs S T →
  Post (fun ds e' => ∀ J H' F' S', Rel K F' H' e' σ os vs S' T → IterR K F' H' J ds → Step q H F (S ++ T) H' F' (S' ++ T) → R J H') (PostX K XR W σ os vs T H F (S ++ T)) (f e) → wi σ H R
end
section
variable {K : PySem.W.Frag} {F F' F1 : Addr → Prop} {H H' H1 : Hp} {e e' : Env} {σ : L2.St} {os : List OD} {vs : List V} {S S' T A A1 Sv : List Addr} {ds : List PyData}
theorem IterR.grow {J : L2.It} (h : IterR K F H J ds) (hF : ∀ b, F b → F' b) (hH : ∀ b o, F b → H b = some o → H' b = some o) : IterR K F' H' J ds := fun F'' H'' a b =>
  h F'' H'' (fun c z => a c (hF c z)) (fun c o z z1 => b c o (hF c z) (hH c o z z1))
theorem Rd.stay {a : Addr} {u : HO} (h : Rd H a u) (f : F a) (hH : ∀ b o, F b → H b = some o → H' b = some o) : Rd H' a u := by
  rcases h with h | ⟨o, h⟩
  · exact .inl (hH a _ f h)
  · exact .inr ⟨o, hH a _ f h⟩
/-- the frozen sequence behind data, for ever -/
theorem fz_lst {v : V} (h : Fz K F H (.list ds) v) : ∃ a xs, v = .ref a ∧ F a ∧ Rd H a (.lst xs) ∧ FzAll K F H ds xs := h
theorem fz_tup' {v : V} (h : Fz K F H (.tuple ds) v) : ∃ a xs, v = .ref a ∧ FzAll K F H ds xs ∧ ∀ H', (∀ b o, F b → H b = some o → H' b = some o) → SqT K H' a xs := by
  obtain ⟨a, xs, rfl, h1, h2⟩ := h
  refine ⟨a, xs, rfl, h2, fun H' hH => ?_⟩
  rcases h1 with ⟨f, r⟩ | k
  · exact .inl (Rd.stay r f hH)
  · exact .inr k
theorem it_list {a : Addr} {xs : List V} (f : F a) (r : Rd H a (.lst xs)) (h : FzAll K F H ds xs) : IterR K F H (Itl K a) ds := fun F' H' hF hH => by
  have sq : SqL K H' a xs := .inl (Rd.stay r f hH)
  have h' := FzAll.mono hF hH ds xs h
  refine ⟨fun i d hd => ?_, ⟨xs, sq, by rw [h.length]; exact Nat.le_refl _⟩⟩
  obtain ⟨x, hx, fx⟩ := h'.get hd
  refine ⟨⟨xs, x, sq, hx⟩, ?_⟩
  rintro y H'' ⟨rfl, hy⟩
  have := hy xs sq
  rw [hx] at this; cases this
  exact ⟨F', fun _ _ z => z, fun _ z => z, fun _ z => .inl z, fx⟩
theorem it_tup {a : Addr} {xs : List V} (h : FzAll K F H ds xs) (sq : ∀ H', (∀ b o, F b → H b = some o → H' b = some o) → SqT K H' a xs) : IterR K F H (Itt K a) ds := fun F' H' hF hH => by
  have sq := sq H' hH
  have h' := FzAll.mono hF hH ds xs h
  refine ⟨fun i d hd => ?_, ⟨xs, sq, by rw [h.length]; exact Nat.le_refl _⟩⟩
  obtain ⟨x, hx, fx⟩ := h'.get hd
  refine ⟨⟨xs, x, sq, hx⟩, ?_⟩
  rintro y H'' ⟨rfl, hy⟩
  have := hy xs sq
  rw [hx] at this; cases this
  exact ⟨F', fun _ _ z => z, fun _ z => z, fun _ z => .inl z, fx⟩
theorem rngL_get {lo c : Int} {n i : Nat} {d : PyData} (h : (rngL lo n c)[i]? = some d) : i < n ∧ d = .int (lo + (i : Int) * c) := by
  unfold rngL at h
  rw [List.getElem?_map, Option.map_eq_some_iff] at h
  obtain ⟨k, h1, rfl⟩ := h
  rcases Nat.lt_or_ge i n with l | l
  · rw [List.getElem?_range l] at h1; cases h1
    exact ⟨l, rfl⟩
  · rw [List.getElem?_eq_none (by simpa using l)] at h1; cases h1
theorem rngL_len {lo c : Int} {n : Nat} : (rngL lo n c).length = n := by simp [rngL]
theorem it_rng {lo : Int} {n : Nat} : IterR K F H (Itr lo n) (rngL lo n 1) := fun F' H' hF hH => by
  refine ⟨fun i d hd => ?_, by rw [rngL_len]; exact Nat.le_refl n⟩
  obtain ⟨l, rfl⟩ := rngL_get hd
  refine ⟨l, ?_⟩
  rintro x H'' ⟨rfl, rfl⟩
  exact ⟨F', fun _ _ z => z, fun _ z => z, fun _ z => .inl z, by rw [Int.mul_one]; rfl⟩
theorem it_rngC {lo c : Int} {n : Nat} : IterR K F H (Itc lo c n) (rngL lo n c) := fun F' H' hF hH => by
  refine ⟨fun i d hd => ?_, by rw [rngL_len]; exact Nat.le_refl n⟩
  obtain ⟨l, rfl⟩ := rngL_get hd
  refine ⟨l, ?_⟩
  rintro x H'' ⟨rfl, rfl⟩
  exact ⟨F', fun _ _ z => z, fun _ z => z, fun _ z => .inl z, rfl⟩
theorem enumL_get : ∀ {ds : List PyData} {n i : Nat} {d : PyData}, (enumL n ds)[i]? = some d → ∃ z, ds[i]? = some z ∧ d = .tuple [.int ((n + i : Nat) : Int), z]
  | [], n, i, d, h => by simp [enumL] at h
  | y :: ds, n, 0, d, h => by
    simp [enumL] at h
    exact ⟨y, rfl, h.symm⟩
  | y :: ds, n, i + 1, d, h => by
    obtain ⟨z, h1, h2⟩ := enumL_get (n := n + 1) (i := i) (by simpa [enumL] using h)
    exact ⟨z, by simpa using h1, by rw [h2, show n + 1 + i = n + (i + 1) by omega]⟩
theorem enumL_len : ∀ {ds : List PyData} {n : Nat}, (enumL n ds).length = ds.length
  | [], _ => rfl
  | y :: ds, n => by simp [enumL, enumL_len]
theorem pairF {T : Addr} {x y : V} {d z : PyData} (nT : H T = none) (hd : Fz K F H d x) (hz : Fz K F H z y) : (∀ b o, H b = some o → upd H T (.tup [x, y]) b = some o) ∧ (∀ b, F b → F b ∨ b = T) ∧ (∀ b, (F b ∨ b = T) → F b ∨ (H b = none ∧ upd H T (.tup [x, y]) b ≠ none)) ∧ Fz K (fun b => F b ∨ b = T) (upd H T (.tup [x, y])) (.tuple [d, z]) (.ref T) := by
  have kp : ∀ b o, H b = some o → upd H T (.tup [x, y]) b = some o := fun b o h => by rw [upd_ne (ne_of_none h nT)]; exact h
  refine ⟨kp, fun _ h => .inl h, fun b h => h.imp id fun e => by subst e; exact ⟨nT, by rw [upd_same]; exact fun z => nomatch z⟩, T, [x, y], rfl, .inl ⟨.inr rfl, .inl upd_same⟩, x, [y], rfl, ?_, y, [], rfl, ?_, rfl⟩
  · exact Fz.mono (fun _ h => .inl h) (fun b o _ => kp b o) d x hd
  · exact Fz.mono (fun _ h => .inl h) (fun b o _ => kp b o) z y hz
theorem it_enumL {a : Addr} {xs : List V} (f : F a) (r : Rd H a (.lst xs)) (h : FzAll K F H ds xs) : IterR K F H (Ite K a) (enumL 0 ds) := fun F' H' hF hH => by
  have sq : SqL K H' a xs := .inl (Rd.stay r f hH)
  have h' := FzAll.mono hF hH ds xs h
  refine ⟨fun i d hd => ?_, ⟨xs, sq, by rw [h.length, enumL_len]; exact Nat.le_refl _⟩⟩
  obtain ⟨z, hz, rfl⟩ := enumL_get hd
  obtain ⟨x, hx, fx⟩ := h'.get hz
  refine ⟨⟨xs, x, sq, hx⟩, ?_⟩
  rintro v H'' ⟨T, y, rfl, nT, rfl, hy⟩
  have := hy xs sq
  rw [hx] at this; cases this
  rw [Nat.zero_add]
  exact ⟨_, pairF nT rfl fx⟩
theorem it_enumT {a : Addr} {xs : List V} (h : FzAll K F H ds xs) (sq : ∀ H', (∀ b o, F b → H b = some o → H' b = some o) → SqT K H' a xs) : IterR K F H (ItT K a) (enumL 0 ds) := fun F' H' hF hH => by
  have sq := sq H' hH
  have h' := FzAll.mono hF hH ds xs h
  refine ⟨fun i d hd => ?_, ⟨xs, sq, by rw [h.length, enumL_len]; exact Nat.le_refl _⟩⟩
  obtain ⟨z, hz, rfl⟩ := enumL_get hd
  obtain ⟨x, hx, fx⟩ := h'.get hz
  refine ⟨⟨xs, x, sq, hx⟩, ?_⟩
  rintro v H'' ⟨T, y, rfl, nT, rfl, hy⟩
  have := hy xs sq
  rw [hx] at this; cases this
  rw [Nat.zero_add]
  exact ⟨_, pairF nT rfl fx⟩
theorem zipL_get : ∀ {ds es : List PyData} {i : Nat} {d : PyData}, (zipL ds es)[i]? = some d → ∃ y z, ds[i]? = some y ∧ es[i]? = some z ∧ d = .tuple [y, z]
  | [], es, i, d, h => by simp [zipL] at h
  | y :: ds, [], i, d, h => by simp [zipL] at h
  | y :: ds, z :: es, 0, d, h => by
    simp [zipL] at h
    exact ⟨y, z, rfl, rfl, h.symm⟩
  | y :: ds, z :: es, i + 1, d, h => by
    obtain ⟨y', z', h1, h2, h3⟩ := zipL_get (ds := ds) (es := es) (i := i) (by simpa [zipL] using h)
    exact ⟨y', z', by simpa using h1, by simpa using h2, h3⟩
theorem zipL_len : ∀ {ds es : List PyData}, ds.length ≤ (zipL ds es).length ∨ es.length ≤ (zipL ds es).length
  | [], es => by simp [zipL]
  | y :: ds, [] => by simp [zipL]
  | y :: ds, z :: es => by
    rcases zipL_len (ds := ds) (es := es) with h | h
    · left; simp [zipL]; exact h
    · right; simp [zipL]; exact h
theorem it_zipL {a b : Addr} {es : List PyData} {xs ys : List V} (fa : F a) (fb : F b) (ra : Rd H a (.lst xs)) (rb : Rd H b (.lst ys)) (h : FzAll K F H ds xs) (g : FzAll K F H es ys) : IterR K F H (Itz K a b) (zipL ds es) := fun F' H' hF hH => by
  have sa : SqL K H' a xs := .inl (Rd.stay ra fa hH)
  have sb : SqL K H' b ys := .inl (Rd.stay rb fb hH)
  have h' := FzAll.mono hF hH ds xs h
  have g' := FzAll.mono hF hH es ys g
  refine ⟨fun i d hd => ?_, ⟨xs, ys, sa, sb, by rw [h.length, g.length]; exact zipL_len⟩⟩
  obtain ⟨y, z, hy, hz, rfl⟩ := zipL_get hd
  obtain ⟨x, hx, fx⟩ := h'.get hy
  obtain ⟨x', hx', fx'⟩ := g'.get hz
  refine ⟨⟨xs, ys, x, x', sa, sb, hx, hx'⟩, ?_⟩
  rintro v H'' ⟨T, u, u', rfl, nT, rfl, hu, hu'⟩
  have := hu xs sa
  rw [hx] at this; cases this
  have := hu' ys sb
  rw [hx'] at this; cases this
  exact ⟨_, pairF nT fx fx'⟩
theorem it_zipT {a b : Addr} {es : List PyData} {xs ys : List V} (h : FzAll K F H ds xs) (g : FzAll K F H es ys) (sa : ∀ H', (∀ b o, F b → H b = some o → H' b = some o) → SqT K H' a xs) (sb : ∀ H', (∀ b o, F b → H b = some o → H' b = some o) → SqT K H' b ys) : IterR K F H (ItzT K a b) (zipL ds es) := fun F' H' hF hH => by
  have sa := sa H' hH
  have sb := sb H' hH
  have h' := FzAll.mono hF hH ds xs h
  have g' := FzAll.mono hF hH es ys g
  refine ⟨fun i d hd => ?_, ⟨xs, ys, sa, sb, by rw [h.length, g.length]; exact zipL_len⟩⟩
  obtain ⟨y, z, hy, hz, rfl⟩ := zipL_get hd
  obtain ⟨x, hx, fx⟩ := h'.get hy
  obtain ⟨x', hx', fx'⟩ := g'.get hz
  refine ⟨⟨xs, ys, x, x', sa, sb, hx, hx'⟩, ?_⟩
  rintro v H'' ⟨T, u, u', rfl, nT, rfl, hu, hu'⟩
  have := hu xs sa
  rw [hx] at this; cases this
  have := hu' ys sb
  rw [hx'] at this; cases this
  exact ⟨_, pairF nT fx fx'⟩
theorem rev_get {α : Type} {xs : List α} {i : Nat} {x : α} (h : xs.reverse[i]? = some x) : i < xs.length ∧ xs[xs.length - 1 - i]? = some x := by
  rcases Nat.lt_or_ge i xs.length with l | l
  · rw [List.getElem?_reverse l] at h
    exact ⟨l, h⟩
  · rw [List.getElem?_eq_none (by simpa using l)] at h; cases h
theorem it_revL {a : Addr} {xs : List V} (f : F a) (r : Rd H a (.lst xs)) (h : FzAll K F H ds xs) : IterR K F H (Itv K a xs.length) ds.reverse := fun F' H' hF hH => by
  have sq : SqL K H' a xs := .inl (Rd.stay r f hH)
  have h' := FzAll.mono hF hH ds xs h
  refine ⟨fun i d hd => ?_, by rw [h.length, List.length_reverse]; exact Nat.le_refl _⟩
  obtain ⟨l, hd'⟩ := rev_get hd
  obtain ⟨x, hx, fx⟩ := h'.get hd'
  rw [← h.length] at hx l
  refine ⟨⟨l, xs, x, sq, hx⟩, ?_⟩
  rintro y H'' ⟨rfl, hy⟩
  have := hy xs sq
  rw [hx] at this; cases this
  exact ⟨F', fun _ _ z => z, fun _ z => z, fun _ z => .inl z, fx⟩
theorem it_revT {a : Addr} {xs : List V} (h : FzAll K F H ds xs) (sq : ∀ H', (∀ b o, F b → H b = some o → H' b = some o) → SqT K H' a xs) : IterR K F H (ItvT K a xs.length) ds.reverse := fun F' H' hF hH => by
  have sq := sq H' hH
  have h' := FzAll.mono hF hH ds xs h
  refine ⟨fun i d hd => ?_, by rw [h.length, List.length_reverse]; exact Nat.le_refl _⟩
  obtain ⟨l, hd'⟩ := rev_get hd
  obtain ⟨x, hx, fx⟩ := h'.get hd'
  rw [← h.length] at hx l
  refine ⟨⟨l, xs, x, sq, hx⟩, ?_⟩
  rintro y H'' ⟨rfl, hy⟩
  have := hy xs sq
  rw [hx] at this; cases this
  exact ⟨F', fun _ _ z => z, fun _ z => z, fun _ z => .inl z, fx⟩
end
section
variable {X : Cx} {tg : Expr}
def iSeq (K : PySem.W.Frag) (te : TE) : TI := fun σ H R => te σ H fun v H1 => ∃ a xs, v = .ref a ∧ ((SqL K H1 a xs ∧ R (Itl K a) H1) ∨ (SqT K H1 a xs ∧ R (Itt K a) H1))
theorem pi_seq {l : Expr} {tl : TE} (pl : PE X l tl) : PI X tg l (iSeq X.K tl) := by
  refine ⟨fun pins s σ H R I h => thn (pl.run pins s σ H _ I h) fun v s1 ⟨x, H1, I1, r1, a, xs, ex, q⟩ => ?_⟩
  subst ex
  cases r1
  have fr : ∀ b, b ∈ [s1.heap.objs.size] → FpOk X pins H1 b := fun b hb => by
    rw [show b = s1.heap.objs.size by simpa using hb]
    exact I1.fpOk (Nat.le_refl _) (I1.hok.fresh (Nat.le_refl _))
  rcases q with ⟨sq, q⟩ | ⟨sq, q⟩
  · obtain ⟨us, rv, ls, _⟩ := I1.list sq
    exact wpAny_pyIter_list ls.isList ⟨s1.heap.objs.size, [s1.heap.objs.size], _, _, H1, rfl, I1.kept (t' := s1.toks) fun b o z => Heap.get?_push_of_some _ z, turn_list a _, ⟨_, Heap.get?_push_size _ rfl, rfl, rfl⟩, fr, q⟩
  · obtain ⟨us, rv, tp, _⟩ := I1.tuple sq
    exact wpAny_pyIter_tuple (show s1.heap.IsTuple a us.toArray from tp) ⟨s1.heap.objs.size, [s1.heap.objs.size], _, _, H1, rfl, I1.kept (t' := s1.toks) fun b o z => Heap.get?_push_of_some _ z, turn_tuple a _, ⟨_, Heap.get?_push_size _ rfl, rfl, rfl⟩, fr, q⟩
end
section
variable (mus : Nat → Option Nat) (c : CallF) (XR : XRel) (W : WX) (X : Cx)
def SI (m : It) (tg e : Expr) : Prop := ∃ wi, PI X tg e wi ∧ MI X.K XR W (quietI mus m) wi (evi mus c m)
end
section
variable {mus : Nat → Option Nat} {c : CallF} {XR : XRel} {W : WX} {X : Cx} {m a b d i : E} {as bs : List E} {ea eb ec ed tg : Expr} {es elts : List Expr} {pos p tpos : Pos} {kk : Nat}
/-- one value, frozen, of which the iterator is made -/
theorem mi_val {k : PyData → M (List PyData)} {t : TE} {G : V → (L2.It → Hp → Prop) → Hp → Prop} (ma : MR X.K XR W (quiet mus a) t (ev mus c a))
    (hk : ∀ d ds e e', k d e = .ok ds e' → e' = e ∧ ∀ F H v (R : L2.It → Hp → Prop), Fz X.K F H d v → (∀ J, IterR X.K F H J ds → R J H) → G v R H) (hx : ∀ d e x e', k d e ≠ .exn x e') :
    MI X.K XR W (quiet mus a) (fun σ H R => t σ H fun v H1 => G v R H1) (bnd (bnd (ev mus c a) valD) k) := fun e σ F H os vs S T R r h => by
  refine ma.valD.bind r h (fun _ _ z => z) fun d e1 v H1 F1 S1 r1 f1 s1 h1 => ?_
  cases z : k d e1 with
  | ok ds e2 =>
    rw [z] at h1
    obtain ⟨rfl, hG⟩ := hk d ds e1 e2 z
    exact hG F1 H1 v R f1 fun J it => h1 J H1 F1 S1 r1 it s1
  | exn x e2 => exact (hx d e1 x e2 z).elim
  | bad => rw [z] at h1; exact h1.elim
theorem opt_bnd_ok {α β : Type} {o : Option α} {g : α → β} {e e' : Env} {b : β} (h : bnd (opt o) (fun a => ret (g a)) e = .ok b e') : e' = e ∧ ∃ a, o = some a ∧ b = g a := by
  obtain ⟨a, e1, h1, h2⟩ := bnd_ok h
  obtain ⟨rfl, h3⟩ := opt_of h1
  injection h2 with h4 h5
  exact ⟨h5.symm, a, h3, h4.symm⟩
theorem seq_cases {d : PyData} {ds : List PyData} (h : seqD d = some ds) : d = .list ds ∨ d = .tuple ds := by
  cases d <;> simp [seqD] at h <;> subst h <;> simp
theorem si_of (ha : SE mus c XR W X a ea) : SI mus c XR W X (.of a) tg ea := by
  obtain ⟨t, pa, ma⟩ := ha
  refine ⟨_, pi_seq pa, mi_val (k := fun d => opt (seqD d)) (G := fun v R H1 => ∃ a xs, v = .ref a ∧ ((SqL X.K H1 a xs ∧ R (Itl X.K a) H1) ∨ (SqT X.K H1 a xs ∧ R (Itt X.K a) H1))) ma (fun d ds e e' h => ?_) fun d e x e' h => opt_exn h⟩
  obtain ⟨rfl, h1⟩ := opt_of h
  refine ⟨rfl, fun F H v R fz hR => ?_⟩
  rcases seq_cases h1 with rfl | rfl
  · obtain ⟨a, xs, rfl, f, r, g⟩ := fz_lst fz
    exact ⟨a, xs, rfl, .inl ⟨.inl r, hR _ (it_list f r g)⟩⟩
  · obtain ⟨a, xs, rfl, g, sq⟩ := fz_tup' fz
    exact ⟨a, xs, rfl, .inr ⟨sq H fun _ _ _ z => z, hR _ (it_tup g sq)⟩⟩
theorem si_enm (hg : Gl X "enumerate") (hm : X.mg "enumerate" = none) (ha : SE mus c XR W X a ea) (hs : starEach [ea] X.env = [(false, eval ea X.env)]) : SI mus c XR W X (.enm a) (.Tuple elts kk tpos) (.Call (.Name "enumerate" p) [ea] [] pos) := by
  obtain ⟨t, pa, ma⟩ := ha
  refine ⟨_, pi_enA hg hm pa hs, mi_val (k := fun d => bnd (opt (seqD d)) fun ds => ret (enumL 0 ds)) (G := fun v R H1 => ∃ a xs, v = .ref a ∧ ((SqL X.K H1 a xs ∧ R (Ite X.K a) H1) ∨ (SqT X.K H1 a xs ∧ R (ItT X.K a) H1))) ma (fun d ds e e' h => ?_) fun d e x e' h => ?_⟩
  · obtain ⟨rfl, zs, h1, rfl⟩ := opt_bnd_ok h
    refine ⟨rfl, fun F H v R fz hR => ?_⟩
    rcases seq_cases h1 with rfl | rfl
    · obtain ⟨a, xs, rfl, f, r, g⟩ := fz_lst fz
      exact ⟨a, xs, rfl, .inl ⟨.inl r, hR _ (it_enumL f r g)⟩⟩
    · obtain ⟨a, xs, rfl, g, sq⟩ := fz_tup' fz
      exact ⟨a, xs, rfl, .inr ⟨sq H fun _ _ _ z => z, hR _ (it_enumT g sq)⟩⟩
  · rcases bnd_exn h with z | ⟨_, _, _, z⟩
    · exact opt_exn z
    · cases z
theorem si_rvs (hg : Gl X "reversed") (hm : X.mg "reversed" = none) (ha : SE mus c XR W X a ea) (hs : starEach [ea] X.env = (false, eval ea X.env) :: starEach [] X.env) : SI mus c XR W X (.rvs a) tg (.Call (.Name "reversed" p) [ea] [] pos) := by
  obtain ⟨t, pa, ma⟩ := ha
  refine ⟨_, pi_revA hg hm pa hs, mi_val (k := fun d => bnd (opt (seqD d)) fun ds => ret ds.reverse) (G := fun v R H1 => ∃ a xs, v = .ref a ∧ ((SqL X.K H1 a xs ∧ R (Itv X.K a xs.length) H1) ∨ (SqT X.K H1 a xs ∧ R (ItvT X.K a xs.length) H1))) ma (fun d ds e e' h => ?_) fun d e x e' h => ?_⟩
  · obtain ⟨rfl, zs, h1, rfl⟩ := opt_bnd_ok h
    refine ⟨rfl, fun F H v R fz hR => ?_⟩
    rcases seq_cases h1 with rfl | rfl
    · obtain ⟨a, xs, rfl, f, r, g⟩ := fz_lst fz
      exact ⟨a, xs, rfl, .inl ⟨.inl r, hR _ (it_revL f r g)⟩⟩
    · obtain ⟨a, xs, rfl, g, sq⟩ := fz_tup' fz
      exact ⟨a, xs, rfl, .inr ⟨sq H fun _ _ _ z => z, hR _ (it_revT g sq)⟩⟩
  · rcases bnd_exn h with z | ⟨_, _, _, z⟩
    · exact opt_exn z
    · cases z
theorem si_zip (hg : Gl X "zip") (hm : X.mg "zip" = none) (ha : SA mus c XR W X as [ea, eb]) (hs : starEach [ea, eb] X.env = (false, eval ea X.env) :: starEach [eb] X.env) (hpl : (backTo pos (starEach [eb] X.env)).any (·.1) = false) :
    SI mus c XR W X (.zip as) (.Tuple elts kk tpos) (.Call (.Name "zip" p) [ea, eb] [] pos) := by
  obtain ⟨t, pa, mm⟩ := ha
  refine ⟨_, pi_zipA hg hm pa hs hpl, fun e σ F H os vs S T R r h => ?_⟩
  refine mm.bind r h (fun _ _ z => z) fun ps e1 xs H1 F1 S1 r1 o1 s1 h1 => ?_
  obtain ⟨ds, e2, F2, S2, r2, f2, s2, h2⟩ := giveAll_of r1 o1 h1
  have st := (s1.trans s2).weak (q' := quiets mus as) fun z => by rw [z]; rfl
  unfold zipK at h2
  split at h2
  · rename_i xs' ys'
    obtain ⟨x, y, rfl, f3, f4⟩ := two_of f2
    obtain ⟨a, us, rfl, fa, ra, g⟩ := fz_lst f3
    obtain ⟨b, ws, rfl, fb, rb, g'⟩ := fz_lst f4
    exact ⟨a, b, us, ws, rfl, .inl ⟨.inl ra, .inl rb, h2 _ _ F2 S2 r2 (it_zipL fa fb ra rb g g') st⟩⟩
  · rename_i xs' ys'
    obtain ⟨x, y, rfl, f3, f4⟩ := two_of f2
    obtain ⟨a, us, rfl, g, sq⟩ := fz_tup' f3
    obtain ⟨b, ws, rfl, g', sq'⟩ := fz_tup' f4
    exact ⟨a, b, us, ws, rfl, .inr ⟨sq _ fun _ _ _ z => z, sq' _ fun _ _ _ z => z, h2 _ _ F2 S2 r2 (it_zipT g g' sq sq') st⟩⟩
  · exact h2.elim
theorem rng_ok {i : Int} (h : rngOk i = true) : -(2 ^ 62) ≤ i ∧ i < 2 ^ 62 := by
  unfold rngOk at h
  simpa using h
theorem MOs.bindE {α : Type} {K : PySem.W.Frag} {q : Bool} {F : Addr → Prop} {H : Hp} {e : Env} {σ : L2.St} {os : List OD} {vs : List V} {S T : List Addr} {f : M (List Opd)} {g : List Opd → M α} {G : List V → Hp → Prop} {t : TA} {ok : α → Env → Prop} {ex : Exn → Env → Prop} (m : MOs K XR W q t f) (r : Rel K F H e σ os vs S T) (h : Post ok ex (bnd f g e)) (hx : ∀ x e', ex x e' → PostX K XR W σ os vs T H F (S ++ T) x e')
    (c : ∀ ps e1 xs H1 F1 S1, f e = .ok ps e1 → Rel K F1 H1 e1 σ os vs S1 T → OpdRs K F1 H1 σ ps xs → Step q H F (S ++ T) H1 F1 (S1 ++ T) → Post ok ex (g ps e1) → G xs H1) : t σ H G := by
  refine m e σ F H os vs S T G r ?_
  unfold bnd Out.andThen at h
  cases z : f e with
  | ok p e1 => rw [z] at h; exact fun xs H1 F1 S1 r1 o1 s1 => c p e1 xs H1 F1 S1 z r1 o1 s1 h
  | exn x e1 => rw [z] at h; exact hx x e1 h
  | bad => rw [z] at h; exact h
theorem evs_len : ∀ {as : List E} {ps : List Opd} {e e1 : Env}, evs mus c as e = .ok ps e1 → ps.length = as.length
  | [], ps, e, e1, h => by injection h with h1 _; subst h1; rfl
  | a :: as, ps, e, e1, h => by
    obtain ⟨p, e2, _, h1⟩ := bnd_ok (m := bnd (ev mus c a) opd) (k := fun p => bnd (evs mus c as) fun ps => ret (p :: ps)) h
    obtain ⟨ps', e3, h2, h3⟩ := bnd_ok h1
    injection h3 with h4 _
    subst h4
    simp [evs_len h2]
theorem OpdRs.length {K : PySem.W.Frag} {F : Addr → Prop} {H : Hp} {σ : L2.St} : ∀ {ps : List Opd} {xs : List V}, OpdRs K F H σ ps xs → xs.length = ps.length
  | [], _, h => by cases h; rfl
  | p :: ps, _, ⟨x, r, e1, _, h⟩ => by subst e1; simp [OpdRs.length h]
/-- the ends of a range are seen -/
theorem rng_see {t : TA} {G : List V → (L2.It → Hp → Prop) → Hp → Prop} (mm : MOs X.K XR W (quiets mus as) t (evs mus c as))
    (hG : ∀ ds e zs e1, ds.length = as.length → rngK ds e = .ok zs e1 → e1 = e ∧ ∀ F H xs (R : L2.It → Hp → Prop), FzAll X.K F H ds xs → (∀ J, (∀ F H, IterR X.K F H J zs) → R J H) → G xs R H) :
    MI X.K XR W (quietI mus (.rng as)) (fun σ H R => t σ H fun xs H1 => G xs R H1) (evi mus c (.rng as)) := fun e σ F H os vs S T R r h => by
  refine mm.bindE r h (fun _ _ z => z) fun ps e1 xs H1 F1 S1 z r1 o1 s1 h1 => ?_
  obtain ⟨ds, f2, h2⟩ := seeAll_of r1 o1 h1
  have ln : ds.length = as.length := by rw [← f2.length, o1.length, evs_len z]
  cases z2 : rngK ds e1 with
  | ok zs e2 =>
    rw [z2] at h2
    obtain ⟨rfl, g⟩ := hG ds e1 zs e2 ln z2
    exact g _ H1 xs R f2 fun J it => h2 J H1 F1 S1 r1 (it F1 H1) s1
  | exn x e2 =>
    unfold rngK at z2
    split at z2 <;> first | cases z2 | (split at z2 <;> cases z2)
  | bad => rw [z2] at h2; exact h2.elim
theorem si_rng1 (hg : Gl X "range") (hm : X.mg "range" = none) (ha : SA mus c XR W X [a] [ea]) (hs : starEach [ea] X.env = [(false, eval ea X.env)]) : SI mus c XR W X (.rng [a]) tg (.Call (.Name "range" p) [ea] [] pos) := by
  obtain ⟨t, pa, mm⟩ := ha
  refine ⟨_, pi_range1 hg hm pa hs, rng_see (G := fun vs R H1 => ∃ j : Int, vs = [.int j] ∧ -(2 ^ 62) ≤ j ∧ j < 2 ^ 62 ∧ R (Itr 0 j.toNat) H1) mm fun ds e zs e1 ln h => ?_⟩
  match ds, ln with
  | [d], _ =>
    cases d with
    | int n =>
      have h : (if rngOk n then ret (rngL 0 n.toNat 1) else bad) e = .ok zs e1 := h
      split at h
      · rename_i ok
        injection h with h1 h2
        subst h1 h2
        refine ⟨rfl, fun F H xs R f hR => ?_⟩
        obtain ⟨x, rfl, fx⟩ := one_of f
        exact ⟨n, by rw [show x = .int n from fx], (rng_ok ok).1, (rng_ok ok).2, hR _ fun F H => it_rng⟩
      · cases h
    | _ => cases h
theorem si_rng2 (hg : Gl X "range") (hm : X.mg "range" = none) (ha : SA mus c XR W X [a, b] [ea, eb]) (hs : starEach [ea, eb] X.env = [(false, eval ea X.env), (false, eval eb X.env)]) (hs2 : starEach [eb] X.env = [(false, eval eb X.env)]) : SI mus c XR W X (.rng [a, b]) tg (.Call (.Name "range" p) [ea, eb] [] pos) := by
  obtain ⟨t, pa, mm⟩ := ha
  refine ⟨_, pi_range2 hg hm pa hs hs2, rng_see (G := fun vs R H1 => ∃ i j : Int, vs = [.int i, .int j] ∧ (-(2 ^ 62) ≤ i ∧ i < 2 ^ 62 ∧ -(2 ^ 62) ≤ j ∧ j < 2 ^ 62) ∧ R (Itr i (j - i).toNat) H1) mm fun ds e zs e1 ln h => ?_⟩
  match ds, ln with
  | [d, d'], _ =>
    cases d with
    | int i =>
      cases d' with
      | int j =>
        have h : (if rngOk i && rngOk j then ret (rngL i (j - i).toNat 1) else bad) e = .ok zs e1 := h
        split at h
        · rename_i ok
          injection h with h1 h2
          subst h1 h2
          rw [Bool.and_eq_true] at ok
          refine ⟨rfl, fun F H xs R f hR => ?_⟩
          obtain ⟨x, y, rfl, fx, fy⟩ := two_of f
          exact ⟨i, j, by rw [show x = .int i from fx, show y = .int j from fy], ⟨(rng_ok ok.1).1, (rng_ok ok.1).2, (rng_ok ok.2).1, (rng_ok ok.2).2⟩, hR _ fun F H => it_rng⟩
        · cases h
      | _ => cases h
    | _ => cases h
theorem si_rng3 (hg : Gl X "range") (hm : X.mg "range" = none) (ha : SA mus c XR W X [a, b, d] [ea, eb, ec]) (hs : starEach [ea, eb, ec] X.env = (false, eval ea X.env) :: starEach [eb, ec] X.env) (hpl : (backTo pos (starEach [eb, ec] X.env)).any (·.1) = false) : SI mus c XR W X (.rng [a, b, d]) tg (.Call (.Name "range" p) [ea, eb, ec] [] pos) := by
  obtain ⟨t, pa, mm⟩ := ha
  refine ⟨_, pi_range3 hg hm pa hs hpl, rng_see (G := fun vs R H1 => ∃ (i j c : Int) (n : Nat), vs = [.int i, .int j, .int c] ∧ RgC i j c n ∧ R (Itc i c n) H1) mm fun ds e zs e1 ln h => ?_⟩
  match ds, ln with
  | [d1, d2, d3], _ =>
    cases d1 with
    | int i =>
      cases d2 with
      | int j =>
        cases d3 with
        | int k =>
          have h : (if rngOk i && rngOk j && decide (k = -1) then ret (rngL i (i - j).toNat (-1)) else bad) e = .ok zs e1 := h
          split at h
          · rename_i ok
            injection h with h1 h2
            subst h1 h2
            simp only [Bool.and_eq_true, decide_eq_true_eq] at ok
            obtain ⟨⟨o1, o2⟩, rfl⟩ := ok
            refine ⟨rfl, fun F H xs R f hR => ?_⟩
            obtain ⟨x, r, rfl, fx, f⟩ := f
            obtain ⟨y, z, rfl, fy, fz⟩ := two_of f
            exact ⟨i, j, -1, (i - j).toNat, by rw [show x = .int i from fx, show y = .int j from fy, show z = .int (-1) from fz], RgC.neg (rng_ok o1).1 (rng_ok o1).2 (rng_ok o2).1 (rng_ok o2).2, hR _ fun F H => it_rngC⟩
          · cases h
        | _ => cases h
      | _ => cases h
    | _ => cases h
end
end HW
end

section
set_option Elab.async false
set_option linter.all false
set_option maxRecDepth 100000
set_option maxHeartbeats 1000000
/-! # Targets -/
namespace HW
open PySem PySem.Spec PyProof.Rows L2
section
variable {K : PySem.W.Frag} {F F' F1 : Addr → Prop} {H H' H1 : Hp} {e e' : Env} {σ σ' : L2.St} {os : List OD} {vs : List V} {S S' T A A1 Sv : List Addr} {ds : List PyData}
/-- a slot takes a tree -/
theorem OwS.setO : ∀ {e : Env} {σ : L2.St} {S : List Addr} {i : Nat}, OwS K F H e σ S → i < e.length → ∃ A C, (A ++ C).Sublist S ∧ (∀ o v B, Ow K F H o v B → OwS K F H (e.set i (some o)) (σ.set i (some v)) (A ++ (B ++ C))) ∧ ∀ x, OwS K F H (e.set i none) (σ.set i x) (A ++ C)
  | [], _, _, i, _, l => by cases l
  | none :: e, σ, S, 0, h, l => by
    obtain ⟨x, r, rfl, h1⟩ := h
    exact ⟨[], S, List.Sublist.refl _, fun o v B ow => ⟨v, r, B, S, rfl, ow, h1, rfl⟩, fun x => ⟨x, r, rfl, h1⟩⟩
  | some p :: e, σ, S, 0, h, l => by
    obtain ⟨x, r, S1, S2, rfl, h1, h2, rfl⟩ := h
    exact ⟨[], S2, List.sublist_append_right S1 S2, fun o v B ow => ⟨v, r, B, S2, rfl, ow, h2, rfl⟩, fun x => ⟨x, r, rfl, h2⟩⟩
  | none :: e, σ, S, i + 1, h, l => by
    obtain ⟨x, r, rfl, h1⟩ := h
    obtain ⟨A, C, s1, f1, f2⟩ := OwS.setO (i := i) h1 (by simpa using l)
    exact ⟨A, C, s1, fun o v B ow => ⟨x, r.set i (some v), rfl, f1 o v B ow⟩, fun y => ⟨x, r.set i y, rfl, f2 y⟩⟩
  | some p :: e, σ, S, i + 1, h, l => by
    obtain ⟨x, r, S1, S2, rfl, h1, h2, rfl⟩ := h
    obtain ⟨A, C, s1, f1, f2⟩ := OwS.setO (i := i) h2 (by simpa using l)
    exact ⟨S1 ++ A, C, by rw [List.append_assoc]; exact List.Sublist.append_left s1 S1, fun o v B ow => ⟨x, r.set i (some v), S1, A ++ (B ++ C), rfl, h1, f1 o v B ow, List.append_assoc ..⟩, fun y => ⟨x, r.set i y, S1, A ++ C, rfl, h1, f2 y, List.append_assoc ..⟩⟩
theorem Step.sub {q : Bool} (h : ∀ b ∈ S', b ∈ S) : Step q H F S H F S' := ⟨fun _ _ z _ => z, fun _ z => z, fun _ z => z, fun _ z => .inl z, fun b z => .inl (h b z)⟩
theorem Rel.sub (r : Rel K F H e σ os vs S T) {S'' : List Addr} (sl : OwS K F H e' σ' S') (s : S'.Sublist S) : Rel K F H e' σ' os vs S' T ∧ Step true H F (S ++ T) H F (S' ++ T) := by
  have s1 : (S' ++ T).Sublist (S ++ T) := List.Sublist.append_right s T
  exact ⟨⟨sl, r.tm, r.nd.sublist s1, fun b hb => r.ap b (s1.subset hb), r.tr⟩, Step.sub fun b hb => s1.subset hb⟩
theorem Rel.setF (r : Rel K F H e σ os vs S T) {i : Nat} {d : PyData} {v : V} (l : i < e.length) (f : Fz K F H d v) : ∃ S', Rel K F H (e.set i (some (.fz d))) (σ.set i (some v)) os vs S' T ∧ Step true H F (S ++ T) H F (S' ++ T) := by
  obtain ⟨A, C, s1, f1, _⟩ := r.sl.setO l
  have := f1 (.fz d) v [] ⟨f, rfl⟩
  exact ⟨_, r.sub (S'' := []) (S' := A ++ ([] ++ C)) this s1⟩
theorem Rel.unset (r : Rel K F H e σ os vs S T) {i : Nat} {x : Option V} : ∃ S', Rel K F H (e.set i none) (σ.set i x) os vs S' T ∧ Step true H F (S ++ T) H F (S' ++ T) := by
  by_cases l : i < e.length
  · obtain ⟨A, C, s1, _, f2⟩ := r.sl.setO l
    exact ⟨_, r.sub (S'' := []) (f2 x) s1⟩
  · have l' : ¬ i < σ.length := by rw [r.lenE]; exact l
    rw [List.set_eq_of_length_le (by omega), List.set_eq_of_length_le (by omega)]
    exact ⟨S, r, Step.refl⟩
theorem Rel.wipe (r : Rel K F H e σ os vs S T) : ∀ own : List Nat, ∃ S', Rel K F H (wipeE e own) (L2.wipe σ own) os vs S' T ∧ Step true H F (S ++ T) H F (S' ++ T)
  | [] => ⟨S, r, Step.refl⟩
  | i :: is => by
    obtain ⟨S1, r1, s1⟩ := Rel.wipe r is
    obtain ⟨S2, r2, s2⟩ := r1.unset (i := i) (x := none)
    exact ⟨S2, r2, s1.trans s2⟩
theorem wipe_at {j : Nat} : ∀ own : List Nat, (L2.wipe σ own)[j]? = if j ∈ own then (σ[j]?).map (fun _ => none) else σ[j]?
  | [] => by simp [L2.wipe]
  | i :: is => by
    have ih := wipe_at (j := j) is
    unfold L2.wipe
    rw [List.getElem?_set, ih]
    have ln : (L2.wipe σ is).length = σ.length := L2.wipe_length σ is
    by_cases c : i = j
    · subst c
      rw [if_pos rfl, if_pos List.mem_cons_self]
      by_cases l : i < σ.length
      · rw [if_pos (by rw [ln]; exact l), List.getElem?_eq_getElem l]; rfl
      · rw [if_neg (by rw [ln]; exact l), List.getElem?_eq_none (by omega)]; rfl
    · rw [if_neg c]
      by_cases m : j ∈ is
      · rw [if_pos m, if_pos (List.mem_cons_of_mem _ m)]
      · rw [if_neg m, if_neg (by simp [m]; exact fun z => c z.symm)]
theorem wipeE_at {j : Nat} : ∀ own : List Nat, (wipeE e own)[j]? = if j ∈ own then (e[j]?).map (fun _ => none) else e[j]?
  | [] => by simp [wipeE]
  | i :: is => by
    have ih := wipeE_at (j := j) is
    have ln : ∀ is : List Nat, (wipeE e is).length = e.length := fun is => by
      induction is with
      | nil => rfl
      | cons i is ih => unfold wipeE; rw [List.length_set, ih]
    unfold wipeE
    rw [List.getElem?_set, ih]
    by_cases c : i = j
    · subst c
      rw [if_pos rfl, if_pos List.mem_cons_self]
      by_cases l : i < e.length
      · rw [if_pos (by rw [ln]; exact l), List.getElem?_eq_getElem l]; rfl
      · rw [if_neg (by rw [ln]; exact l), List.getElem?_eq_none (by omega)]; rfl
    · rw [if_neg c]
      by_cases m : j ∈ is
      · rw [if_pos m, if_pos (List.mem_cons_of_mem _ m)]
      · rw [if_neg m, if_neg (by simp [m]; exact fun z => c z.symm)]
def kept (e₀ : Env) (j : Nat) : Option OD := match e₀[j]? with
  | some (some (.fz d)) => some (.fz d)
  | _ => none
theorem restore_at {e₀ : Env} {j : Nat} : ∀ own : List Nat, (restore e₀ own e)[j]? = if j ∈ own then (e[j]?).map (fun _ => kept e₀ j) else e[j]?
  | [] => by simp [restore]
  | i :: is => by
    have ih := restore_at (e₀ := e₀) (j := j) is
    have ln : ∀ is : List Nat, (restore e₀ is e).length = e.length := fun is => by
      induction is with
      | nil => rfl
      | cons i is ih => unfold restore; rw [List.length_set, ih]
    show ((restore e₀ is e).set i (kept e₀ i))[j]? = _
    rw [List.getElem?_set, ih]
    by_cases c : i = j
    · subst c
      rw [if_pos rfl, if_pos List.mem_cons_self]
      by_cases l : i < e.length
      · rw [if_pos (by rw [ln]; exact l), List.getElem?_eq_getElem l]; rfl
      · rw [if_neg (by rw [ln]; exact l), List.getElem?_eq_none (by omega)]; rfl
    · rw [if_neg c]
      by_cases m : j ∈ is
      · rw [if_pos m, if_pos (List.mem_cons_of_mem _ m)]
      · rw [if_neg m, if_neg (by simp [m]; exact fun z => c z.symm)]
/-- slots changed where nothing was owned -/
theorem OwS.congr : ∀ {e e' : Env} {σ σ' : L2.St} {S : List Addr}, OwS K F H e σ S → e'.length = e.length → σ'.length = σ.length →
    (∀ j : Nat, (e'[j]? = e[j]? ∧ (∀ o, e[j]? = some (some o) → σ'[j]? = σ[j]?)) ∨ (e[j]? = some none ∧ ∃ d v, e'[j]? = some (some (.fz d)) ∧ σ'[j]? = some (some v) ∧ Fz K F H d v)) → OwS K F H e' σ' S
  | [], e', σ, σ', S, h, l1, l2, _ => by
    obtain ⟨rfl, rfl⟩ := h
    rw [List.length_nil] at l1 l2
    rw [List.length_eq_zero_iff] at l1 l2
    subst l1
    exact ⟨l2, rfl⟩
  | x :: e, [], σ, σ', S, h, l1, l2, _ => by simp at l1
  | x :: e, y :: e', σ, σ', S, h, l1, l2, hh => by
    cases σ with
    | nil => cases x with
      | none => obtain ⟨_, _, z, _⟩ := h; cases z
      | some o => obtain ⟨_, _, _, _, z, _⟩ := h; cases z
    | cons u σ =>
      cases σ' with
      | nil => simp at l2
      | cons u' σ' =>
        have tl : ∀ j : Nat, (e'[j]? = e[j]? ∧ (∀ o, e[j]? = some (some o) → σ'[j]? = σ[j]?)) ∨ (e[j]? = some none ∧ ∃ d v, e'[j]? = some (some (.fz d)) ∧ σ'[j]? = some (some v) ∧ Fz K F H d v) := fun j => by simpa using hh (j + 1)
        have h0 := hh 0
        simp only [List.getElem?_cons_zero, Option.some.injEq] at h0
        cases x with
        | none =>
          obtain ⟨v, r, z, h1⟩ := h
          injection z with z1 z2
          subst z1 z2
          have ih := OwS.congr (e' := e') (σ' := σ') h1 (by simpa using l1) (by simpa using l2) tl
          rcases h0 with ⟨rfl, _⟩ | ⟨_, d, w, rfl, rfl, f⟩
          · exact ⟨u', σ', rfl, ih⟩
          · exact ⟨w, σ', [], S, rfl, ⟨f, rfl⟩, ih, rfl⟩
        | some o =>
          obtain ⟨v, r, S1, S2, z, h1, h2, rfl⟩ := h
          injection z with z1 z2
          subst z1 z2
          have ih := OwS.congr (e' := e') (σ' := σ') h2 (by simpa using l1) (by simpa using l2) tl
          rcases h0 with ⟨rfl, g⟩ | ⟨z, _⟩
          · have := g o rfl
            subst this
            exact ⟨v, σ', S1, S2, rfl, h1, ih, rfl⟩
          · cases z
theorem wipeE_len (own : List Nat) : (wipeE e own).length = e.length := by
  induction own with
  | nil => rfl
  | cons i is ih => unfold wipeE; rw [List.length_set, ih]
theorem restore_len {e₀ : Env} (own : List Nat) : (restore e₀ own e).length = e.length := by
  induction own with
  | nil => rfl
  | cons i is ih => unfold restore; rw [List.length_set, ih]
/-- behind a block: its own names' slots hold again what they held -/
theorem Rel.restore {e₀ : Env} {own : List Nat} (r : Rel K F H (wipeE e own) (L2.wipe σ own) os vs S T) (h0 : ∀ (j : Nat) (d : PyData), e₀[j]? = some (some (OD.fz d)) → ∃ v, σ[j]? = some (some v) ∧ Fz K F H d v) : Rel K F H (restore e₀ own e) σ os vs S T := by
  have ln : σ.length = e.length := by
    have := r.lenE
    rw [L2.wipe_length, wipeE_len] at this
    exact this
  refine ⟨r.sl.congr (by rw [restore_len, wipeE_len]) (by rw [L2.wipe_length]) fun j => ?_, r.tm, r.nd, r.ap, r.tr⟩
  rw [restore_at, wipeE_at, wipe_at]
  by_cases m : j ∈ own
  · simp only [m, if_true]
    by_cases l : j < e.length
    · rw [List.getElem?_eq_getElem l]
      simp only [Option.map_some]
      unfold kept
      split
      · rename_i d g
        obtain ⟨v, hv, f⟩ := h0 j d g
        exact .inr ⟨by simp, d, v, by simp, hv, f⟩
      · exact .inl ⟨rfl, fun o z => by cases z⟩
    · rw [List.getElem?_eq_none (by omega)]
      exact .inl ⟨rfl, fun o z => by cases z⟩
  · simp only [m, if_false]
    exact .inl ⟨trivial, fun _ _ => trivial⟩
end
/-! ## targets -/
mutual
def tgVars : Tg → List Nat
  | .var i => [i]
  | .tup ts => tgsVars ts
def tgsVars : List Tg → List Nat
  | [] => []
  | t :: ts => tgVars t ++ tgsVars ts
end
def MG (K : PySem.W.Frag) (own : List Nat) (g : TG) (f : PyData → M Unit) : Prop := ∀ d e e1 u σ F H os vs S T v (Q : L2.St → Hp → Prop), Rel K F H e σ os vs S T → Fz K F H d v → f d e = .ok u e1 →
  (∀ σ' S', Rel K F H e1 σ' os vs S' T → Step true H F (S ++ T) H F (S' ++ T) → σ'.length = σ.length → (∀ j, j ∉ own → σ'[j]? = σ[j]?) → Q σ' H) → g v σ H Q
def MGs (K : PySem.W.Frag) (own : List Nat) (g : TGs) (f : List PyData → M Unit) : Prop := ∀ ds e e1 u σ F H os vs S T xs (Q : L2.St → Hp → Prop), Rel K F H e σ os vs S T → FzAll K F H ds xs → f ds e = .ok u e1 →
  (∀ σ' S', Rel K F H e1 σ' os vs S' T → Step true H F (S ++ T) H F (S' ++ T) → σ'.length = σ.length → (∀ j, j ∉ own → σ'[j]? = σ[j]?) → Q σ' H) → g xs σ H Q
def SG (X : Cx) (m : Tg) (t : Expr) : Prop := ∃ g, PG X t g ∧ MG X.K (tgVars m) g (tgs m)
def SGs (X : Cx) (ms : List Tg) (ts : List Expr) : Prop := ∃ g, PGs X ts g ∧ MGs X.K (tgsVars ms) g (fun ds => if ms.length = ds.length then tgs.go ms ds else bad)
section
variable {X : Cx} {m : Tg} {ms : List Tg} {t : Expr} {ts : List Expr} {pos : Pos} {i kk : Nat} {x : Str}
theorem sg_var (hN : X.N.Nodup) (hi : X.N[i]? = some x) (hx : Loc X.env.scope x) (hf : X.fn x = true ∨ X.env.scope.names.lookup x = some .local) : SG X (.var i) (.Name x pos) := by
  refine ⟨_, pg_name hN hi hx hf, fun d e e1 u σ F H os vs S T v Q r f h q => ?_⟩
  obtain ⟨l, rfl⟩ := setSlot_of (show setSlot i (.fz d) e = .ok u e1 from h)
  obtain ⟨S', r', s'⟩ := r.setF l f
  exact q _ S' r' s' (List.length_set ..) fun j hj => List.getElem?_set_ne (fun z => hj (by rw [z]; simp [tgVars]))
theorem sgs_nil : SGs X [] [] := by
  refine ⟨_, pgs_nil, fun ds e e1 u σ F H os vs S T xs Q r f h q => ?_⟩
  have h : (if ([] : List Tg).length = ds.length then tgs.go [] ds else bad) e = .ok u e1 := h
  split at h
  · rename_i c
    have : ds = [] := by cases ds with
      | nil => rfl
      | cons _ _ => simp at c
    subst this
    cases (show xs = [] from f)
    unfold tgs.go at h
    injection h with h1 h2
    subst h2
    exact ⟨rfl, q σ S r Step.refl rfl fun _ _ => rfl⟩
  · cases h
theorem sgs_cons (h1 : SG X m t) (h2 : SGs X ms ts) (hs : (assignEach (t :: ts) X.env).map (·.2) = assign t X.env :: (assignEach ts X.env).map (·.2)) : SGs X (m :: ms) (t :: ts) := by
  obtain ⟨g1, p1, m1⟩ := h1
  obtain ⟨g2, p2, m2⟩ := h2
  refine ⟨_, pgs_cons p1 p2 hs, fun ds e e1 u σ F H os vs S T xs Q r f h q => ?_⟩
  have h : (if (m :: ms).length = ds.length then tgs.go (m :: ms) ds else bad) e = .ok u e1 := h
  split at h
  · rename_i c
    cases ds with
    | nil => simp at c
    | cons d ds =>
      obtain ⟨x, rr, rfl, fx, fr⟩ := f
      obtain ⟨u1, e2, a1, a2⟩ := bnd_ok (m := tgs m d) (k := fun _ => tgs.go ms ds) h
      refine ⟨x, rr, rfl, m1 d e e2 u1 σ F H os vs S T x _ r fx a1 fun σ1 S1 r1 s1 l1 k1 => ?_⟩
      refine m2 ds e2 e1 u σ1 F H os vs S1 T rr Q r1 fr (by show (if ms.length = ds.length then tgs.go ms ds else bad) e2 = _; rw [if_pos (by simpa using c)]; exact a2) fun σ2 S2 r2 s2 l2 k2 => ?_
      exact q σ2 S2 r2 (s1.trans s2) (by rw [l2, l1]) fun j hj => by
        have hj : j ∉ tgVars m ++ tgsVars ms := hj
        rw [List.mem_append, not_or] at hj
        rw [k2 j hj.2, k1 j hj.1]
  · cases h
theorem sg_tup {n : Nat} (hc : X.calm = true) (h : SGs X ms ts) (hn : (assignEach ts X.env).length = n) (hm : ms.length = n) (hst : (assignEach ts X.env).findIdx? (·.1) = none) : SG X (.tup ms) (.Tuple ts kk pos) := by
  obtain ⟨g, p, mm⟩ := h
  refine ⟨_, pg_tup hc p hn hst, fun d e e1 u σ F H os vs S T v Q r f h q => ?_⟩
  cases d with
  | tuple ds =>
    have h : (if ms.length = ds.length then tgs.go ms ds else bad) e = .ok u e1 := h
    obtain ⟨a, xs, rfl, sq, fs⟩ := fz_tup f
    refine ⟨a, xs, rfl, sq, ?_, mm ds e e1 u σ F H os vs S T xs Q r fs h q⟩
    split at h
    · rename_i c
      rw [fs.length, ← c, hm]
    · cases h
  | _ => cases h
end
end HW
end

section
set_option Elab.async false
set_option linter.all false
set_option maxRecDepth 100000
set_option maxHeartbeats 1000000
/-! # Comprehensions -/
namespace HW
open PySem PySem.Spec PyProof.Rows L2
def tE (K : PySem.W.Frag) (XR : XRel) (W : WX) (q : Bool) (f : M Rv) : TE := fun σ H Q => ∃ e F os vs S T, Rel K F H e σ os vs S T ∧ Post (OkR K σ os vs T q Q H F (S ++ T)) (PostX K XR W σ os vs T H F (S ++ T)) (f e)
def tT (K : PySem.W.Frag) (XR : XRel) (W : WX) (q : Bool) (f : M Bool) : TT := fun σ H Q => ∃ e F os vs S T, Rel K F H e σ os vs S T ∧
  Post (fun k e' => ∀ H' F' S', Rel K F' H' e' σ os vs S' T → Step q H F (S ++ T) H' F' (S' ++ T) → Q k H') (PostX K XR W σ os vs T H F (S ++ T)) (f e)
def gT (K : PySem.W.Frag) (own : List Nat) (f : PyData → M Unit) : TG := fun v σ H Q => ∃ d e e1 u F os vs S T, Rel K F H e σ os vs S T ∧ Fz K F H d v ∧ f d e = .ok u e1 ∧
  ∀ σ' S', Rel K F H e1 σ' os vs S' T → Step true H F (S ++ T) H F (S' ++ T) → σ'.length = σ.length → (∀ j, j ∉ own → σ'[j]? = σ[j]?) → Q σ' H
section
variable {K : PySem.W.Frag} {XR : XRel} {W : WX} {q : Bool}
theorem tE.mr {f : M Rv} : MR K XR W q (tE K XR W q f) f := fun e σ F H os vs S T Q r h => ⟨e, F, os, vs, S, T, r, h⟩
theorem tT.mt {f : M Bool} : MT K XR W q (tT K XR W q f) f := fun e σ F H os vs S T Q r h => ⟨e, F, os, vs, S, T, r, h⟩
theorem gT.mg {own : List Nat} {f : PyData → M Unit} : MG K own (gT K own f) f := fun d e e1 u σ F H os vs S T v Q r f h q => ⟨d, e, e1, u, F, os, vs, S, T, r, f, h, q⟩
end
section
variable {mus : Nat → Option Nat} {c : CallF} {XR : XRel} {W : WX} {X : Cx} {m a b d i : E} {as bs : List E} {ea eb ec ed tg : Expr} {es elts : List Expr} {pos p tpos : Pos} {kk : Nat}
theorem SE.can (h : SE mus c XR W X m ea) : PE X ea (tE X.K XR W (quiet mus m) (ev mus c m)) := by
  obtain ⟨t, p, mm⟩ := h
  exact ⟨fun pins s σ H Q I ⟨e, F, os, vs, S, T, r, h⟩ => p.run pins s σ H Q I (mm e σ F H os vs S T Q r h)⟩
theorem ST.can (h : ST mus c XR W X m ea) : PT X ea (tT X.K XR W (quiet mus m) (test mus c m)) := by
  obtain ⟨t, p, mm⟩ := h
  exact ⟨fun pins s σ H Q I ⟨e, F, os, vs, S, T, r, h⟩ => p.run pins s σ H Q I (mm e σ F H os vs S T Q r h)⟩
theorem SG.can {t : Tg} (h : SG X t ea) : PG X ea (gT X.K (tgVars t) (tgs t)) := by
  obtain ⟨g, p, mm⟩ := h
  exact ⟨fun pins s σ H v u Q I rv ⟨d, e, e1, u', F, os, vs, S, T, r, f, h, q⟩ => p.run pins s σ H v u Q I rv (mm d e e1 u' σ F H os vs S T v Q r f h q)⟩
end
/-- a comprehension's tests -/
def STs (mus : Nat → Option Nat) (c : CallF) (XR : XRel) (W : WX) (X : Cx) (cs : List E) (ifs : List Expr) : Prop := PTs X ifs (tT X.K XR W (quiets mus cs) (evc mus c cs))
section
variable {mus : Nat → Option Nat} {c : CallF} {XR : XRel} {W : WX} {X : Cx} {m a b d i : E} {as bs : List E} {ea eb ec ed tg : Expr} {es elts : List Expr} {pos p tpos : Pos} {kk : Nat}
theorem sts_nil : STs mus c XR W X [] [] := ⟨fun pins s σ H Q I ⟨e, F, os, vs, S, T, r, h⟩ => pts_nil.run pins s σ H Q I (h H F S r Step.refl)⟩
theorem sts_one (h : ST mus c XR W X a ea) : STs mus c XR W X [a] [ea] := ⟨fun pins s σ H Q I ⟨e, F, os, vs, S, T, r, h'⟩ => (pts_one h.can).run pins s σ H Q I ⟨e, F, os, vs, S, T, r, by
  rw [show quiets mus [a] = (quiet mus a && true) from rfl, Bool.and_true] at h'
  exact h'⟩⟩
end
section
variable {K : PySem.W.Frag} {F F' F1 F4 : Addr → Prop} {H H' H1 H4 : Hp} {e e' : Env} {σ σ' : L2.St} {os : List OD} {vs : List V} {S S' T A A1 A4 Sv : List Addr} {ds : List PyData} {q : Bool}
theorem Step.updNew {D : Addr} {o : HO} (s : Step q H1 F1 A1 H4 F4 A4) (nD : H1 D = none) (hD : H4 D ≠ none) : Step q H1 F1 A1 (upd H4 D o) F4 A4 :=
  ⟨fun b u h hb => by rw [upd_ne (ne_of_none h nD)]; exact s.keep b u h hb, fun b h => upd_trk b (s.trk b h), s.fm, s.fn, s.sn⟩
theorem nodes_fzs : ∀ ds : List PyData, nodesAll (ds.map OD.fz) = 0
  | [] => rfl
  | d :: ds => by show 0 + nodesAll (ds.map OD.fz) = 0; rw [nodes_fzs ds]
/-- the list at hand grows -/
theorem Rel.app {D : Addr} {y : V} {d : PyData} (r : Rel K F H e σ (fzs ds :: os) (.ref D :: vs) S (D :: T)) (f : Fz K F H d y) : ∃ acc, H D = some (.lst acc) ∧ FzAll K F H ds acc ∧ Rel K F (upd H D (.lst (acc ++ [y]))) e σ (fzs (ds ++ [d]) :: os) (.ref D :: vs) S (D :: T) := by
  obtain ⟨x, rr, S1, S2, e1, ⟨a, acc, S', e2, h1, h2, e3⟩, h3, e4⟩ := r.tm
  injection e1 with e5 e6
  subst e5 e6
  injection e2 with e7
  subst e7
  obtain ⟨fa, rfl⟩ := FzAll.of_fzs h2
  subst e3
  injection (show D :: T = D :: S2 from e4) with _ e8
  subst e8
  have nd := r.nd
  have nD : D ∉ S ++ T := by
    have := (List.Perm.nodup_iff (List.perm_middle (l₁ := S) (l₂ := T) (a := D))).mp nd
    exact (List.nodup_cons.mp this).1
  have hD : ¬ F D := r.ap D (by simp)
  have kF : ∀ b u, F b → H b = some u → upd H D (.lst (acc ++ [y])) b = some u := fun b u hf hu => by
    rw [upd_ne (by rintro rfl; exact hD hf)]; exact hu
  have kS : ∀ b u, b ∈ S ++ T → H b = some u → upd H D (.lst (acc ++ [y])) b = some u := fun b u hb hu => by
    rw [upd_ne (by rintro rfl; exact nD hb)]; exact hu
  have hF : ∀ b, F b → F b := fun _ z => z
  refine ⟨acc, h1, fa, OwS.stay hF kF e σ S (fun b u hb => kS b u (List.mem_append_left _ hb)) r.sl, ?_, nd, r.ap, fun b z => upd_trk b (r.tr b z)⟩
  refine ⟨.ref D, vs, [D], T, rfl, ⟨D, acc ++ [y], [], rfl, upd_same, ?_, rfl⟩, OwAll.stay hF kF os vs T (fun b u hb => kS b u (List.mem_append_right _ hb)) h3, rfl⟩
  have fa' := FzAll.mono hF kF ds acc fa
  have fy := Fz.mono hF kF d y f
  have := FzAll.append fa' (show FzAll K F (upd H D (.lst (acc ++ [y]))) [d] [y] from ⟨y, [], rfl, fy, rfl⟩)
  exact OwAll.fzs this
end
theorem wipe_twice {σ σ2 : L2.St} {own tv : List Nat} (h : ∀ j, j ∉ tv → σ2[j]? = (L2.wipe σ own)[j]?) (sub : ∀ j ∈ tv, j ∈ own) (ln : σ2.length = σ.length) : L2.wipe σ2 own = L2.wipe σ own := by
  apply List.ext_getElem?
  intro j
  rw [wipe_at, wipe_at]
  by_cases m : j ∈ own
  · simp only [m, if_true]
    by_cases l : j < σ.length
    · rw [List.getElem?_eq_getElem l, List.getElem?_eq_getElem (by omega)]; rfl
    · rw [List.getElem?_eq_none (by omega), List.getElem?_eq_none (by omega)]
  · simp only [m, if_false]
    rw [h j (fun z => m (sub j z)), wipe_at]
    simp [m]
section
variable {mus : Nat → Option Nat} {c : CallF} {XR : XRel} {W W' : WX} {X : Cx} {x : E} {cs : List E} {t : Tg} {it : It} {own : List Nat} {wi : TI}
def compB (mus : Nat → Option Nat) (c : CallF) (t : Tg) (cs : List E) (x : E) (d : PyData) : M (Option PyData) :=
  bnd (tgs t d) fun _ => bnd (evc mus c cs) fun k => if k then bnd (bnd (ev mus c x) valD) fun y => ret (some y) else ret none
theorem lc_mr {K : PySem.W.Frag} (mi : MI K XR W (quietI mus it) wi (evi mus c it)) (sub : ∀ j ∈ tgVars t, j ∈ own) :
    MR K XR W (quiet mus (.comp t it cs x own)) (tLc wi (gT K (tgVars t) (tgs t)) (tT K XR W' (quiets mus cs) (evc mus c cs)) (tE K XR W' (quiet mus x) (ev mus c x)) own) (ev mus c (.comp t it cs x own)) := fun e σ F H os vs S T Q r h => by
  have h : Post _ _ (bnd (evi mus c it) (fun ds => compK own (compB mus c t cs x) ds) e) := h
  refine mi e σ F H os vs S T _ r ?_
  cases z : evi mus c it e with
  | bad => unfold bnd Out.andThen at h; rw [z] at h; exact h.elim
  | exn y e1 => unfold bnd Out.andThen at h; rw [z] at h; exact h
  | ok ds e1 =>
    unfold bnd Out.andThen at h
    rw [z] at h
    have h : Post _ _ (compK own (compB mus c t cs x) ds e1) := h
    intro J H1 F1 S1 r1 ir s1 D nD
    -- the turns end well
    unfold compK at h
    cases zt : turns (fun d e' => compB mus c t cs x d (wipeE e' own)) ds [] e1 with
    | bad => rw [zt] at h; exact h.elim
    | exn y e2 => rw [zt] at h; exact h.elim
    | ok ysF eF =>
      rw [zt] at h
      have h : ∀ v H' F' S' Sv, Rel K F' H' (restore e1 own eF) σ os vs S' T → Top K F' H' (fzs ysF) v S' Sv T → Step (quiet mus (.comp t it cs x own)) H F (S ++ T) H' F' (S' ++ (Sv ++ T)) → Q v H' := h
      have hq : quiet mus (.comp t it cs x own) = (quietI mus it && (quiets mus cs && quiet mus x)) := rfl
      have md := Made.lst (K := K) (F := F1) (ds := []) nD (fun z => r1.tr D z nD) (show FzAll K F1 H1 [] [] from rfl)
      obtain ⟨r2, t2, s2⟩ := r1.made md
      have r3 := r2.push t2
      obtain ⟨S4, r4, s4⟩ := r3.wipe own
      have h0 : ∀ (j : Nat) (d : PyData), e1[j]? = some (some (OD.fz d)) → ∃ v, σ[j]? = some (some v) ∧ Fz K F1 H1 d v := fun j d g => by
        obtain ⟨v, A, B, C, g1, _, g3, _⟩ := r1.sl.split g
        exact ⟨v, g1, g3.1⟩
      refine ⟨fun i m H' => ∃ ei ys F' S', m = ds.length - i ∧ i ≤ ds.length ∧ turns (fun d e' => compB mus c t cs x d (wipeE e' own)) (ds.drop i) ys ei = .ok ysF eF ∧ Rel K F' H' (wipeE ei own) (L2.wipe σ own) (fzs ys :: os) (.ref D :: vs) S' (D :: T) ∧ H' D ≠ none ∧
        Step (quiets mus cs && quiet mus x) H1 F1 (S1 ++ T) H' F' (S' ++ D :: T), ⟨_, e1, [], F1, S4, rfl, Nat.zero_le _, zt, r4, by rw [upd_same]; exact fun z => (nomatch z), ?_⟩, ?_⟩
      · exact (s2.trans s4).weak fun _ => rfl
      · rintro i m H' ⟨ei, ys, F', S', rfl, li, tt, r', hD, s'⟩
        by_cases le : i < ds.length
        · -- a turn
          right
          have hd : ds[i]? = some ds[i] := List.getElem?_eq_getElem le
          rw [List.drop_eq_getElem_cons le] at tt
          obtain ⟨go, yld⟩ := (ir F' H' s'.fm (r1.fkeep s')).1 i _ hd
          refine ⟨go, fun H2 => ∃ ei ys F' S', turns (fun d e' => compB mus c t cs x d (wipeE e' own)) (ds.drop (i + 1)) ys ei = .ok ysF eF ∧ Rel K F' H2 (wipeE ei own) (L2.wipe σ own) (fzs ys :: os) (.ref D :: vs) S' (D :: T) ∧ H2 D ≠ none ∧ Step (quiets mus cs && quiet mus x) H1 F1 (S1 ++ T) H2 F' (S' ++ D :: T), ?_, ?_⟩
          · rintro H2 ⟨ei', ys', F2, S2, g1, g2, g3, g4⟩
            exact ⟨ds.length - (i + 1), by omega, ei', ys', F2, S2, rfl, le, g1, g2, g3, g4⟩
          · intro xv H2 hy
            obtain ⟨F2, k1, k2, k3, fz⟩ := yld xv H2 hy
            obtain ⟨r5, s5⟩ := r'.grow k1 k2 k3
            -- the interpreter's turn
            obtain ⟨ox, e3, b1, b2⟩ := bnd_ok (m := fun e' => compB mus c t cs x ds[i] (wipeE e' own)) (k := fun ox => match ox with | some y => if ys.length < lim then turns (fun d e' => compB mus c t cs x d (wipeE e' own)) (ds.drop (i + 1)) (ys ++ [y]) else bad | none => turns (fun d e' => compB mus c t cs x d (wipeE e' own)) (ds.drop (i + 1)) ys) tt
            obtain ⟨u, e4, c1, c2⟩ := bnd_ok (m := tgs t ds[i]) b1
            obtain ⟨k, e5, c3, c4⟩ := bnd_ok c2
            refine gT.mg ds[i] (wipeE ei own) e4 u _ F2 H2 _ _ S' (D :: T) xv _ r5 fz c1 fun σ2 S6 r6 s6 l6 k6 => ?_
            have w2 : L2.wipe σ2 own = L2.wipe σ own := wipe_twice k6 sub (by rw [l6, L2.wipe_length])
            refine ⟨w2, ?_⟩
            refine tT.mt e4 σ2 F2 H2 _ _ S6 (D :: T) _ r6 ?_
            rw [c3]
            intro H7 F7 S7 r7 s7
            have d7 : H7 D ≠ none := s7.trk D (s6.trk D (s5.trk D hD))
            have st7 := ((s'.trans s5).trans s6).trans s7
            cases k with
            | false =>
              injection c4 with c5 c6
              subst c5 c6
              obtain ⟨S8, r8, s8⟩ := r7.wipe own
              rw [w2] at r8
              exact ⟨e5, ys, F7, S8, b2, r8, d7, (st7.trans s8).weak fun z => by rw [Bool.and_eq_true] at z; simp [z.1, z.2]⟩
            | true =>
              obtain ⟨y, e6, c5, c6⟩ := bnd_ok (m := bnd (ev mus c x) valD) c4
              injection c6 with c7 c8
              subst c7 c8
              refine (tE.mr.valD) e5 σ2 F7 H7 _ _ S7 (D :: T) _ r7 ?_
              rw [c5]
              intro yv H9 F9 S9 r9 f9 s9
              obtain ⟨acc, a1, a2, r10⟩ := r9.app f9
              have b2 : (if ys.length < lim then turns (fun d e' => compB mus c t cs x d (wipeE e' own)) (ds.drop (i + 1)) (ys ++ [y]) else bad) e6 = .ok ysF eF := b2
              split at b2
              · rename_i lt
                refine ⟨acc, a1, by rw [a2.length, ← lim_eq]; exact lt, ?_⟩
                obtain ⟨S11, r11, s11⟩ := r10.wipe own
                rw [w2] at r11
                refine ⟨e6, ys ++ [y], F9, S11, b2, r11, by rw [upd_same]; exact fun z => (nomatch z), ?_⟩
                have s10 := (st7.trans s9).updNew (o := .lst (acc ++ [yv])) nD (s9.trk D d7)
                exact (s10.trans s11).weak fun z => by rw [Bool.and_eq_true] at z; simp [z.1, z.2]
              · cases b2
        · -- the end
          left
          have ei' : i = ds.length := by omega
          subst ei'
          refine ⟨(ir F' H' s'.fm (r1.fkeep s')).2, ?_⟩
          rw [List.drop_length] at tt
          injection tt with t1 t2
          subst t1 t2
          have r6 := r'.restore (e₀ := e1) fun j d g => by
            obtain ⟨v, g1, g2⟩ := h0 j d g
            exact ⟨v, g1, r1.fz s' g2⟩
          obtain ⟨r7, t7⟩ := Rel.pop (Sv := [D]) r6 (by show 1 = nodesAll (ys.map OD.fz) + 1; rw [nodes_fzs])
          exact h _ H' F' S' [D] r7 t7 ((s1.trans s').weak fun z => by rw [← hq]; exact z)
end
section
variable {mus : Nat → Option Nat} {c : CallF} {XR : XRel} {W : WX} {X : Cx} {x : E} {cs : List E} {t : Tg} {it : It} {elt tg iter : Expr} {ifs : List Expr} {scope : Scope} {own : List (Str × Nat)} {pos : Pos}
def WF : WX := fun _ _ _ _ => False
theorem se_comp (hc : X.calm = true) (hN : X.N.Nodup) (hi : SI mus c XR W X it tg iter) (ok : BlkOk X.N X.env.scope scope own) (sub : ∀ j ∈ tgVars t, j ∈ own.map (·.2))
    (hg : ∀ (s : Shared) (H : Hp) (C : Addr) (cl : List (Str × Addr)) (fp : List Addr), SG (X.blk s H scope (compEnvC scope cl C X.env) fp) t tg) (ht : ∀ (s : Shared) (H : Hp) (C : Addr) (cl : List (Str × Addr)) (fp : List Addr), STs mus c XR WF (X.blk s H scope (compEnvC scope cl C X.env) fp) cs ifs)
    (he : ∀ (s : Shared) (H : Hp) (C : Addr) (cl : List (Str × Addr)) (fp : List Addr), SE mus c XR WF (X.blk s H scope (compEnvC scope cl C X.env) fp) x elt) (hs : ∀ x, foldedSetIterable iter X.env x = pure x) :
    SE mus c XR W X (.comp t it cs x (own.map (·.2))) (.ListComp elt [⟨tg, iter, ifs, 0⟩] scope pos) := by
  obtain ⟨wi, pi, mi⟩ := hi
  exact ⟨_, pe_lc (g := gT X.K (tgVars t) (tgs t)) (tt := tT X.K XR WF (quiets mus cs) (evc mus c cs)) (te := tE X.K XR WF (quiet mus x) (ev mus c x)) hc hN pi ok (fun s H C cl fp => (hg s H C cl fp).can) (fun s H C cl fp => ht s H C cl fp) (fun s H C cl fp => (he s H C cl fp).can) hs, lc_mr mi sub⟩
end
end HW
end

section
set_option Elab.async false
set_option linter.all false
set_option maxRecDepth 100000
set_option maxHeartbeats 1000000
/-! # A list turned about; lists and tuples of ranges -/
namespace HW
open PySem PySem.Spec PyProof.Rows L2
section
variable {mus : Nat → Option Nat} {c : CallF} {XR : XRel} {W : WX} {X : Cx} {a b : E} {ea eb : Expr} {pos p1 p2 p3 : Pos} {k : Nat}
theorem se_rev (ha : SE mus c XR W X a ea) : SE mus c XR W X (.rev a) (.Subscript ea (.Slice none none (some (.UnaryOp .USub (.Constant (.int 1) k p1) p2)) p3) pos) := by
  obtain ⟨t, p, mm⟩ := ha
  refine ⟨_, pe_revL p, fun e σ F H os vs S T Q r h => ?_⟩
  refine mm.opd.bind r h (fun _ _ z => z) fun p e1 x H1 F1 S1 z r1 o1 s1 h1 => ?_
  obtain ⟨d, kd, h2⟩ := keep_of r1 o1 h1
  cases d with
  | list ds =>
    obtain ⟨ad, xs, rfl, sq, f⟩ := kd
    refine ⟨ad, xs, rfl, .inl sq, fun p np => ?_⟩
    obtain ⟨r4, t4, s4⟩ := r1.made (Made.lst np (fun z => r1.tr p z np) f.reverse)
    exact h2 _ _ _ S1 _ r4 t4 ((s1.trans s4).weak fun z => by
      rw [show quiet mus (.rev a) = quiet mus a from rfl] at z
      simp only [Bool.and_eq_true]
      exact ⟨z, True.intro⟩)
  | _ => exact h2.elim
theorem rgV_fz {K : PySem.W.Frag} {F : Addr → Prop} {H : Hp} (i j : Int) : FzAll K F H (rngL i (j - i).toNat 1) (rgV i j) := by
  have e1 : rngL i (j - i).toNat 1 = ((List.range (j - i).toNat).map fun (k : Nat) => i + (k : Int)).map PyData.int := by
    unfold rngL
    rw [List.map_map]
    exact List.map_congr_left fun k _ => by simp
  have e2 : rgV i j = ((List.range (j - i).toNat).map fun (k : Nat) => i + (k : Int)).map V.int := by
    unfold rgV
    rw [List.map_map]
    rfl
  rw [e1, e2]
  exact FzAll.of_ints _
theorem rg_ok {i j : Int} (h : (rngOk i && (rngOk j && decide ((j - i).toNat ≤ lim))) = true) : RgOk i j := by
  simp only [Bool.and_eq_true, decide_eq_true_eq] at h
  obtain ⟨h1, h2, h3⟩ := h
  exact ⟨(rng_ok h1).1, (rng_ok h1).2, (rng_ok h2).1, (rng_ok h2).2, Nat.le_trans h3 (by decide)⟩
theorem lrg_rule {t : Bool} {i j : Int} {o : OD} {Q : VK} {F : Addr → Prop} {H : Hp} {e : Env} {σ : L2.St} {os : List OD} {vs : List V} {S T : List Addr} (r : Rel X.K F H e σ os vs S T) (h : lrgD t (.int i) (.int j) = some o)
    (q : ∀ v H' F' Sv, Made X.K F H o v H' F' Sv → Q v H') : RgOk i j ∧ ∀ p, H p = none → Q (.ref p) (upd H p (if t then .tup (rgV i j) else .lst (rgV i j))) := by
  have h : (if (rngOk i && (rngOk j && decide ((j - i).toNat ≤ lim))) = true then some (if t then OD.fz (.tuple (rngL i (j - i).toNat 1)) else fzs (rngL i (j - i).toNat 1)) else none) = some o := h
  split at h
  · rename_i ok
    refine ⟨rg_ok ok, fun p np => ?_⟩
    injection h with h
    subst h
    cases t with
    | true => exact q _ _ _ _ (Made.tup np (rgV_fz _ _))
    | false => exact q _ _ _ _ (Made.lst np (fun z => r.tr p z np) (rgV_fz _ _))
  · cases h
theorem se_lrg {t : Bool} {p q : Pos} (hc : X.calm = true) (hg : Gl X "range") (hm : X.mg "range" = none) (hg2 : Gl X (if t then ("tuple" : Str) else ("list" : Str))) (hl : t = false → X.mg "list" = none) (ht : t = true → X.mg "tuple" = none) (ha : SE mus c XR W X a ea) (hs : starEach [ea] X.env = [(false, eval ea X.env)]) :
    SE mus c XR W X (.lrg t a) (.Call (.Name (if t then ("tuple" : Str) else ("list" : Str)) p) [.Call (.Name "range" q) [ea] [] p2] [] pos) := by
  obtain ⟨ta, pa, mm⟩ := ha
  have pr : PRg X (.Call (.Name "range" q) [ea] [] p2) (tRg1 ta) := prg_1 hg hm pa hs
  have rule : ∀ e σ F H os vs S T (Q : VK), Rel X.K F H e σ os vs S T → Post (OkR X.K σ os vs T (quiet mus (.lrg t a)) Q H F (S ++ T)) (PostX X.K XR W σ os vs T H F (S ++ T)) (ev mus c (.lrg t a) e) → ta σ H fun x H1 => ∃ n, x = .int n ∧ (RgOk 0 n ∧ ∀ p, H1 p = none → Q (.ref p) (upd H1 p (if t then .tup (rgV 0 n) else .lst (rgV 0 n)))) := fun e σ F H os vs S T Q r h => by
    refine mm.opd.bind r h (fun _ _ z => z) fun p e1 x H1 F1 S1 z r1 o1 s1 h1 => ?_
    obtain ⟨d, fd, h2⟩ := see_of r1 o1 h1
    obtain ⟨o, ho, h3⟩ := post_opt h2
    cases d with
    | int n =>
      refine ⟨n, fd, lrg_rule r1 ho fun v H' F' Sv md => ?_⟩
      obtain ⟨r4, t4, s4⟩ := r1.made md
      exact h3 v H' F' S1 Sv r4 t4 ((s1.trans s4).weak fun z => by
        rw [show quiet mus (.lrg t a) = quiet mus a from rfl] at z
        simp only [Bool.and_eq_true]
        exact ⟨z, True.intro⟩)
    | _ => cases ho
  cases t with
  | true => exact ⟨_, pe_tupRg hc hg2 (ht rfl) pr, rule⟩
  | false => exact ⟨_, pe_listRg hc hg2 (hl rfl) pr, rule⟩
theorem se_lrg2 {t : Bool} {p q : Pos} (hc : X.calm = true) (hg : Gl X "range") (hm : X.mg "range" = none) (hg2 : Gl X (if t then ("tuple" : Str) else ("list" : Str))) (hl : t = false → X.mg "list" = none) (ht : t = true → X.mg "tuple" = none) (ha : SE mus c XR W X a ea) (hb : SE mus c XR W X b eb) (hd : shallow a = true ∨ quiet mus b = true)
    (hs : starEach [ea, eb] X.env = (false, eval ea X.env) :: starEach [eb] X.env) (hs2 : starEach [eb] X.env = [(false, eval eb X.env)]) :
    SE mus c XR W X (.lrg2 t a b) (.Call (.Name (if t then ("tuple" : Str) else ("list" : Str)) p) [.Call (.Name "range" q) [ea, eb] [] p2] [] pos) := by
  obtain ⟨ta, pa, ma⟩ := ha
  obtain ⟨tb, pb, mb⟩ := hb
  have pr : PRg X (.Call (.Name "range" q) [ea, eb] [] p2) (tRg2 ta tb) := prg_2 hg hm pa pb hs hs2 (by rw [hs2]; rfl)
  have rule : ∀ e σ F H os vs S T (Q : VK), Rel X.K F H e σ os vs S T → Post (OkR X.K σ os vs T (quiet mus (.lrg2 t a b)) Q H F (S ++ T)) (PostX X.K XR W σ os vs T H F (S ++ T)) (ev mus c (.lrg2 t a b) e) → ta σ H fun x H1 => tb σ H1 fun y H2 => ∃ i j, x = .int i ∧ y = .int j ∧ (RgOk i j ∧ ∀ p, H2 p = none → Q (.ref p) (upd H2 p (if t then .tup (rgV i j) else .lst (rgV i j)))) := fun e σ F H os vs S T Q r h => by
    refine MO.two ma.opd mb.opd (hd.imp (fun z => Shal.of z) id) r h (fun _ _ z => z) fun p p' e2 x y H2 F2 S2 r2 o1 o2 s2 h2 => ?_
    obtain ⟨d, fd, h3⟩ := see_of r2 o1 h2
    obtain ⟨d', fd', h4⟩ := see_of r2 o2 h3
    obtain ⟨o, ho, h5⟩ := post_opt h4
    cases d with
    | int i =>
      cases d' with
      | int j =>
        refine ⟨i, j, fd, fd', lrg_rule r2 ho fun v H' F' Sv md => ?_⟩
        obtain ⟨r4, t4, s4⟩ := r2.made md
        exact h5 v H' F' S2 Sv r4 t4 ((s2.trans s4).weak fun z => by
          rw [show quiet mus (.lrg2 t a b) = (quiet mus a && quiet mus b) from rfl] at z
          simp only [Bool.and_eq_true] at z ⊢
          exact ⟨z, True.intro⟩)
      | _ => cases ho
    | _ => cases ho
  cases t with
  | true => exact ⟨_, pe_tupRg hc hg2 (ht rfl) pr, rule⟩
  | false => exact ⟨_, pe_listRg hc hg2 (hl rfl) pr, rule⟩
end
end HW
end

section
set_option Elab.async false
set_option linter.all false
set_option maxRecDepth 100000
set_option maxHeartbeats 1000000
/-! # Calls of the program's own defs -/
namespace HW
open PySem PySem.Spec PyProof.Rows L2
/-- a def's promise, where no guard stands -/
structure FnG (P : Program) (w : World) (K : PySem.W.Frag) (mg : Str → Option Value) (base : Heap) (CX : CXT) (k : Nat) (f : Addr) (fd : FuncData) (ps : List Str) (sp : Sp) : Prop where
  len : ∀ vs H Q E, sp vs H Q E → vs.length = ps.length
  run : ∀ (A : Around) (outer : List PySem.Env) (s : Shared) (H : Hp) (args : Args) (us : List Value) (vs : List V) (Q : VK) (E : XK), A.guards = some [] → Room k A → Env0 P w K mg base A outer s H → BindsTo s fd args (ps.zip us) → Vals vs us → sp vs H Q E →
    codeAny (model P w) A (.call (.ref f) args) (CR CX outer P w H s Q E) s
section
variable {X : Cx} {k : Nat} {f : Addr} {fd : FuncData} {ps : List Str} {sp : Sp} {E : L2.St → XK} {x : Str} {p pos : Pos} {e : Expr} {es : List Expr} {t : TA} {CX : CXT}
theorem run_G {pins : List (Addr × Obj)} {σ : L2.St} {H : Hp} {s : Shared} {Q : VK} {ws : List Value} {vs : List V} {args : Args} (G : FnG X.prog X.w X.K X.mg X.base CX k f fd ps sp) (hgu : X.A.guards = some []) (hr : Room k X.A) (hx : PassesAt CX X σ (E σ))
    (I : Inv X pins σ H s) (hb : ws.length = ps.length → BindsTo s fd args (ps.zip ws)) (r : Vals vs ws) (h : sp vs H Q (E σ)) : codeAny (model X.prog X.w) X.A (.call (.ref f) args) (fun r s' => match r with | .ok (.ret u) => EP X pins σ Q u s' | .ok _ => False | .error e => X.xe e s') s := by
  have ln : ws.length = ps.length := by rw [← r.length]; exact G.len _ _ _ _ h
  refine codeAny_mono (G.run X.A X.stack s H args ws vs Q (E σ) hgu hr I.env0 (hb ln) r h) fun r s' hq => ?_
  cases r with
  | error e => exact hx pins H s e s' I hq
  | ok fl =>
    cases fl with
    | ret u => exact I.after hq
    | next => exact hq
    | brk => exact hq
    | cont => exact hq
/-- what a call's reading is -/
def tCl (sp : Sp) (E : L2.St → XK) (g : List V → List V) (t : TA) : TE := fun σ H Q => t σ H fun vs H1 => sp (g vs) H1 Q (E σ)
theorem pe_G (G : FnG X.prog X.w X.K X.mg X.base CX k f fd ps sp) (hgu : X.A.guards = some []) (hr : Room k X.A) (hg : Gl X x) (hm : X.mg x = some (.ref f)) (hk : PySem.W.keepIn X.K (.ref f) = true) (hb : Binds X.K fd ps []) (hx : ∀ σ, PassesAt CX X σ (E σ))
    (ha : PA X (e :: es) t) (hdb : (x == ("__debug__" : Str)) = false) (he : starEach (e :: es) X.env = (false, eval e X.env) :: starEach es X.env) (hpl : (backTo pos (starEach es X.env)).any (·.1) = false) :
    PE X (.Call (.Name x p) (e :: es) [] pos) (tCl sp E id t) := by
  refine ⟨fun pins s σ H Q I h => wpAny_Call_Name_kw (ld_glob I hg hm ?_ hdb)⟩
  refine PySem.W.callWith_K (h₀ := X.base) I.ok.mod.kin hk (thn (ha.run pos pins s σ H _ I h) fun us s1 ⟨vs, H1, I1, r, q⟩ => ⟨I1.kIn, ?_⟩) he hpl
  refine wpAny_call (codeAny_mono (run_G (args := ⟨us, []⟩) G hgu hr (hx σ) I1 (fun ln => ?_) r q) fun r s' hq => ?_)
  · have b := hb s1 us I1.kIn (by rw [List.append_nil]; exact ln)
    rw [List.append_nil] at b
    exact b
  · cases r with
    | error e => exact hq
    | ok fl => cases fl <;> first | exact hq | exact False.elim hq
theorem pe_G0 (G : FnG X.prog X.w X.K X.mg X.base CX k f fd ps sp) (hgu : X.A.guards = some []) (hr : Room k X.A) (hg : Gl X x) (hm : X.mg x = some (.ref f)) (hk : PySem.W.keepIn X.K (.ref f) = true) (hb : Binds X.K fd ps []) (hx : ∀ σ, PassesAt CX X σ (E σ))
    (hdb : (x == ("__debug__" : Str)) = false) : PE X (.Call (.Name x p) [] [] pos) (tCl sp E id tNil) := by
  refine ⟨fun pins s σ H Q I h => wpAny_Call_Name_kw (ld_glob I hg hm ?_ hdb)⟩
  refine PySem.W.callWith_K0 I.kIn hk ?_
  refine wpAny_call (codeAny_mono (run_G (args := ⟨[], []⟩) G hgu hr (hx σ) I (fun ln => ?_) (show Vals [] [] from .nil) h) fun r s' hq => ?_)
  · have b := hb s [] I.kIn (by rw [List.append_nil]; exact ln)
    exact b
  · cases r with
    | error e => exact hq
    | ok fl => cases fl <;> first | exact hq | exact False.elim hq
/-- a keyword call binds: g puts the keywords' values in the parameters' order -/
def KwB (K : PySem.W.Frag) (fd : FuncData) (ps ks : List Str) (ix : List Nat) : Prop :=
  ∀ (s : Shared) (ws us : List Value), K.In s.heap → ws.length = ks.length → (ix.mapM fun i => ws[i]?) = some us → BindsTo s fd ⟨[], ks.zip ws⟩ (ps.zip us)
theorem pe_GK {kws : List Keyword} {ks : List Str} {ix : List Nat} (G : FnG X.prog X.w X.K X.mg X.base CX k f fd ps sp) (hgu : X.A.guards = some []) (hr : Room k X.A) (hg : Gl X x) (hm : X.mg x = some (.ref f)) (hk : PySem.W.keepIn X.K (.ref f) = true) (hb : KwB X.K fd ps ks ix) (hx : ∀ σ, PassesAt CX X σ (E σ))
    (hkw : PK X kws t) (hall : (backToKw pos (keywordEach kws X.env)).all (·.1.isSome) = true) (hks : (backToKw pos (keywordEach kws X.env)).filterMap (·.1) = ks) (hdb : (x == ("__debug__" : Str)) = false)
    (hpl : ((backTo pos (starEach [] X.env)).any (·.1) || (backToKw pos (keywordEach kws X.env)).any (·.1.isNone)) = false) :
    PE X (.Call (.Name x p) [] kws pos) (fun σ H Q => t σ H fun zs H1 => zs.length = ks.length ∧ ∃ vs, (ix.mapM fun i => zs[i]?) = some vs ∧ sp vs H1 Q (E σ)) := by
  refine ⟨fun pins s σ H Q I h => wpAny_Call_Name_kw (ld_glob I hg hm ?_ hdb)⟩
  refine PySem.W.callWith_KW0 (h₀ := X.base) I.ok.mod.kin hk hall (thn (hkw.run pos pins s σ H _ I h) fun ws s1 ⟨zs, H1, I1, r, ln, vs, ev, q⟩ => ⟨I1.kIn, ?_⟩) hpl
  rw [hks]
  have pick : ∀ (ix : List Nat) (vs : List V), (ix.mapM fun i => zs[i]?) = some vs → ∃ us, (ix.mapM fun i => ws[i]?) = some us ∧ Vals vs us := by
    intro ix
    induction ix with
    | nil => intro vs ev; rw [List.mapM_nil] at ev; cases ev; exact ⟨[], rfl, .nil⟩
    | cons i ix ih =>
      intro vs ev
      rw [List.mapM_cons] at ev
      obtain ⟨v, e1, e2⟩ := Option.bind_eq_some_iff.mp ev
      obtain ⟨vr, e3, e4⟩ := Option.bind_eq_some_iff.mp e2
      cases e4
      obtain ⟨u, hu, ru⟩ := r.get e1
      obtain ⟨ur, hur, rr⟩ := ih vr e3
      refine ⟨u :: ur, ?_, .cons ru rr⟩
      rw [List.mapM_cons, hu, hur]; rfl
  obtain ⟨us, eu, ru⟩ := pick ix vs ev
  refine wpAny_call (codeAny_mono (run_G (args := ⟨[], ks.zip ws⟩) G hgu hr (hx σ) I1 (fun _ => hb s1 ws us I1.kIn (by rw [← r.length]; exact ln) eu) ru q) fun r s' hq => ?_)
  cases r with
  | error e => exact hq
  | ok fl => cases fl <;> first | exact hq | exact False.elim hq
end
/-- what is behind the arguments of a call -/
def outR (K : PySem.W.Frag) (mu : Option Nat) (vs : List V) (out : Option OD) (F' : Addr → Prop) (H' : Hp) (So : List Addr) : Prop := match mu, out with
  | none, none => So = []
  | some m, some p => ∃ w, vs[m]? = some w ∧ Ow K F' H' p w So
  | _, _ => False
/-- the promise of a def of the small language -/
def Prom (K : PySem.W.Frag) (XR : XRel) (c : CallF) (mu : Option Nat) (np : Nat) (g : Nat) : Sp := fun vs H Q E => vs.length = np ∧ ∃ (F : Addr → Prop) (os : List OD) (S : List Addr), OwAll K F H os vs S ∧ S.Nodup ∧ (∀ b ∈ S, ¬ F b) ∧ (∀ b, F b → H b ≠ none) ∧ (mu = none → S = []) ∧
  match c g os with
  | .ok o out => ∀ v H' (F' : Addr → Prop) Sv So, Ow K F' H' o v Sv → outR K mu vs out F' H' So → (Sv ++ So).Nodup → (∀ b ∈ Sv ++ So, ¬ F' b) → (∀ b, F' b → H' b ≠ none) → Step false H F S H' F' (Sv ++ So) → Q v H'
  | .exn x => mu = none ∧ ∀ cls d H' (F' : Addr → Prop), (∀ b, F' b → H' b ≠ none) → Step false H F [] H' F' [] → XR x cls d H' F' → E cls d H'
  | .bad => False
section
variable {K : PySem.W.Frag} {XR : XRel} {W : WX} {F F' F1 : Addr → Prop} {H H' H1 : Hp} {e e' : Env} {σ σ' : L2.St} {os : List OD} {vs : List V} {S S' T A A1 Sv : List Addr} {ds : List PyData} {q : Bool}
theorem Step.quiet (s : Step false H F [] H' F' A1) : Step true H F [] H' F' A1 := ⟨fun b o h _ => s.keep b o h (.inr (by simp)), s.trk, s.fm, s.fn, s.sn⟩
/-- nothing of ours was handed over -/
theorem Rel.foreign (r : Rel K F H e σ os vs S T) (s : Step false H F [] H' F' Sv) (ft : ∀ b, F' b → H' b ≠ none) (nd : Sv.Nodup) (nf : ∀ b ∈ Sv, ¬ F' b) {o : OD} {v : V} (ow : Ow K F' H' o v Sv) :
    Rel K F' H' e σ os vs S T ∧ Top K F' H' o v S Sv T ∧ Step true H F (S ++ T) H' F' (S ++ (Sv ++ T)) := by
  have kp : ∀ b o, H b = some o → H' b = some o := fun b o h => s.keep b o h (.inr (by simp))
  obtain ⟨r1, s1⟩ := r.grow kp s.fm fun b h => by
    rcases s.fn b h with z | z | z
    · exact .inl z
    · cases z
    · exact .inr ⟨z, ft b h⟩
  have tr : ∀ b ∈ S ++ T, H b ≠ none := fun b hb => (List.mem_append.mp hb).elim (OwS.trk r.sl b) (OwAll.trk r.tm b)
  have nw : ∀ b ∈ Sv, b ∉ S ++ T := fun b hb z => by
    rcases s.sn b hb with z' | z'
    · cases z'
    · exact tr b z z'
  have nd2 : (S ++ (Sv ++ T)).Nodup := by
    refine (List.Perm.nodup_iff (perm_mid (A := S) (B := Sv) (C := T))).mpr (List.nodup_append.mpr ⟨nd, r.nd, fun b hb b' hb' e => nw b hb (e ▸ hb')⟩)
  refine ⟨r1, ⟨ow, nd2, nf⟩, ⟨fun b u h _ => kp b u h, s1.trk, s1.fm, s1.fn, fun b hb => ?_⟩⟩
  rcases List.mem_append.mp ((perm_mid (A := S) (B := Sv) (C := T)).mem_iff.mp hb) with z | z
  · rcases s.sn b z with z' | z'
    · cases z'
    · exact .inr z'
  · exact .inl z
theorem lend_none {ps : List Opd} : lend none ps = bnd (giveAll ps) fun ds => ret (ds.map .fz) := by
  cases ps with
  | nil => rfl
  | cons p ps => rfl
/-- the operand that is lent -/
def lentR (K : PySem.W.Frag) (F : Addr → Prop) (H : Hp) (e : Env) (σ : L2.St) (p : Opd) (w : V) (o : OD) : Prop := match p with
  | .fz d => o = .fz d ∧ Fz K F H d w
  | .at i ks => OpdR K F H σ (.at i ks) w ∧ slotAt i ks e = .ok o e
theorem lend_of {β : Type} : ∀ {m : Nat} {ps : List Opd} {xs : List V} {e : Env} {F : Addr → Prop} {S : List Addr} {k : List OD → M β} {ok : β → Env → Prop} {ex : Exn → Env → Prop}, Rel K F H e σ os vs S T → OpdRs K F H σ ps xs → m < ps.length → Post ok ex (bnd (lend (some m) ps) k e) →
    ∃ ds1 ds2 o p w xs1 xs2 e1 F1 S1, ps[m]? = some p ∧ xs = xs1 ++ w :: xs2 ∧ xs1.length = m ∧ Rel K F1 H e1 σ os vs S1 T ∧ FzAll K F1 H ds1 xs1 ∧ FzAll K F1 H ds2 xs2 ∧ lentR K F1 H e1 σ p w o ∧ Step true H F (S ++ T) H F1 (S1 ++ T) ∧ Post ok ex (k (ds1.map .fz ++ o :: ds2.map .fz) e1)
  | m, [], xs, e, F, S, k, ok, ex, r, o, l, h => by cases l
  | 0, p :: ps, xs, e, F, S, k, ok, ex, r, ⟨x, r', e1, o1, o2⟩, l, h => by
    have h : Post ok ex (bnd (giveAll ps) (fun ds => bnd (lentK p) fun o => k (o :: ds.map .fz)) e) := by
      refine Eq.mp ?_ h
      congr 1
      show bnd (bnd (giveAll ps) fun ds => bnd (lentK p) fun o => ret (o :: ds.map .fz)) k e = _
      unfold bnd Out.andThen
      cases giveAll ps e with
      | ok ds e1 =>
        simp only
        cases lentK p e1 <;> rfl
      | exn x e1 => rfl
      | bad => rfl
    obtain ⟨ds, e2, F1, S1, r1, f1, s1, h1⟩ := giveAll_of r o2 h
    cases p with
    | fz d => exact ⟨[], ds, .fz d, _, x, [], r', e2, F1, S1, rfl, by rw [e1]; rfl, rfl, r1, rfl, f1, ⟨rfl, r.fz s1 o1⟩, s1, h1⟩
    | «at» i ks =>
      have o1' : OpdR K F1 H σ (.at i ks) x := o1
      obtain ⟨q, _, so, h2⟩ := post_at r1 o1' h1
      exact ⟨[], ds, q, _, x, [], r', e2, F1, S1, rfl, by rw [e1]; rfl, rfl, r1, rfl, f1, ⟨o1', so⟩, s1, h2⟩
  | m + 1, p :: ps, xs, e, F, S, k, ok, ex, r, ⟨x, r', e1, o1, o2⟩, l, h => by
    have h : Post ok ex (bnd (give p) (fun d => bnd (lend (some m) ps) fun os => k (.fz d :: os)) e) := by
      refine Eq.mp ?_ h
      congr 1
      show bnd (bnd (give p) fun d => bnd (lend (some m) ps) fun os => ret (.fz d :: os)) k e = _
      unfold bnd Out.andThen
      cases give p e with
      | ok d e1 =>
        simp only
        cases lend (some m) ps e1 <;> rfl
      | exn x e1 => rfl
      | bad => rfl
    obtain ⟨d, e2, F1, S1, r1, f1, s1, h1⟩ := give_of r o1 h
    obtain ⟨ds1, ds2, o, p', w, xs1, xs2, e3, F2, S2, g1, g2, g3, r2, f2, f3, lr, s2, h2⟩ := lend_of (k := fun os => k (.fz d :: os)) r1 (o2.stay r s1) (by simpa using l) h1
    exact ⟨d :: ds1, ds2, o, p', w, x :: xs1, xs2, e3, F2, S2, by simpa using g1, by rw [e1, g2]; rfl, by simp [g3], r2, ⟨x, xs1, rfl, r1.fz s2 f1, f2⟩, f3, lr, s1.trans s2, h2⟩
theorem OwAll.mid {o : OD} {w : V} {B : List Addr} (ow : Ow K F H o w B) : ∀ {ds1 ds2 : List PyData} {xs1 xs2 : List V}, FzAll K F H ds1 xs1 → FzAll K F H ds2 xs2 → OwAll K F H (ds1.map .fz ++ o :: ds2.map .fz) (xs1 ++ w :: xs2) B
  | [], ds2, xs1, xs2, h1, h2 => by
    cases (show xs1 = [] from h1)
    exact ⟨w, xs2, B, [], rfl, ow, OwAll.fzs h2, (List.append_nil _).symm⟩
  | d :: ds1, ds2, xs1, xs2, ⟨x, r, e1, f1, f2⟩, h2 => by
    subst e1
    exact ⟨x, r ++ w :: xs2, [], B, rfl, ⟨f1, rfl⟩, OwAll.mid ow f2 h2, rfl⟩
/-- the heart of a call -/
theorem calling_of {c : CallF} {mu : Option Nat} {np f : Nat} {ps : List Opd} {xs : List V} {H0 : Hp} {F0 : Addr → Prop} {S0 : List Addr} {Q : VK} (hm : ∀ m, mu = some m → m < ps.length) (hl : xs.length = np)
    (r : Rel K F H e σ os vs S T) (o : OpdRs K F H σ ps xs) (s : Step q H0 F0 (S0 ++ T) H F (S ++ T))
    (h : Post (OkR K σ os vs T (mu.isNone && q) Q H0 F0 (S0 ++ T)) (PostX K XR W σ os vs T H0 F0 (S0 ++ T)) (bnd (calling c mu f ps) (fun o => ret (.tmp o)) e)) : Prom K XR c mu np f xs H Q (WE W σ) := by
  cases mu with
  | none =>
    have h : Post (OkR K σ os vs T (Option.isNone (none : Option Nat) && q) Q H0 F0 (S0 ++ T)) (PostX K XR W σ os vs T H0 F0 (S0 ++ T)) (bnd (giveAll ps) (fun ds => bnd (match c f (ds.map .fz) with | .ok o out => ret o | .exn x => fun e => .exn x e | .bad => bad) fun o => ret (Rv.tmp o)) e) := by
      refine Eq.mp ?_ h
      congr 1
      show bnd (bnd (lend none ps) fun os => match c f os with | .ok o out => ret o | .exn x => fun e => .exn x e | .bad => bad) (fun o => ret (Rv.tmp o)) e = _
      rw [lend_none]
      unfold bnd Out.andThen
      cases giveAll ps e with
      | ok ds e1 => rfl
      | exn x e1 => rfl
      | bad => rfl
    obtain ⟨ds, e1, F1, S1, r1, f1, s1, h1⟩ := giveAll_of r o h
    refine ⟨hl, F1, ds.map .fz, [], OwAll.fzs f1, List.nodup_nil, fun b hb => (nomatch hb), r1.tr, fun _ => rfl, ?_⟩
    cases z : c f (ds.map .fz) with
    | ok o out =>
      rw [z] at h1
      intro v H' F' Sv So ow or nd nf ft st
      have eo : So = [] := by
        cases out with
        | none => exact or
        | some _ => exact or.elim
      subst eo
      rw [List.append_nil] at nd nf st
      obtain ⟨r2, t2, s2⟩ := r1.foreign st ft nd nf ow
      exact h1 v H' F' S1 Sv r2 t2 (((s.trans s1).trans s2).weak fun z => by
        have z : (true && q) = true := z
        rw [Bool.true_and] at z; rw [z]; rfl)
    | exn x =>
      rw [z] at h1
      refine ⟨rfl, fun cls d H' F' ft st xr => ?_⟩
      obtain ⟨r2, s2⟩ := r1.grow (fun b o h => st.keep b o h (.inr (by simp))) st.fm fun b h => by
        rcases st.fn b h with z | z | z
        · exact .inl z
        · cases z
        · exact .inr ⟨z, ft b h⟩
      have h1 : PostX K XR W σ os vs T H0 F0 (S0 ++ T) x e1 := h1
      exact h1 H' F' S1 cls d r2 (((s.trans s1).trans s2).weak fun z => by cases z) xr
    | bad => rw [z] at h1; exact h1
  | some m =>
    have h : Post (OkR K σ os vs T (Option.isNone (some m : Option Nat) && q) Q H0 F0 (S0 ++ T)) (PostX K XR W σ os vs T H0 F0 (S0 ++ T)) (bnd (lend (some m) ps) (fun os => match c f os with | .ok o out => bnd (opt ps[m]?) fun p => bnd (putBack p out) fun _ => ret (Rv.tmp o) | .exn x => bad | .bad => bad) e) := by
      refine Eq.mp ?_ h
      congr 1
      show bnd (bnd (lend (some m) ps) fun os => match c f os with | .ok o out => bnd (opt ps[m]?) fun p => bnd (putBack p out) fun _ => ret o | .exn x => bad | .bad => bad) (fun o => ret (Rv.tmp o)) e = _
      unfold bnd Out.andThen
      cases lend (some m) ps e with
      | exn x e1 => rfl
      | bad => rfl
      | ok os' e1 =>
        simp only
        cases c f os' with
        | exn x => rfl
        | bad => rfl
        | ok o out =>
          simp only
          cases opt ps[m]? e1 with
          | exn x e2 => rfl
          | bad => rfl
          | ok p e2 =>
            simp only
            cases putBack p out e2 <;> rfl
    obtain ⟨ds1, ds2, o, p, w, xs1, xs2, e1, F1, S1, g1, g2, g3, r1, f1, f2, lr, s1, h1⟩ := lend_of r o (hm m rfl) h
    have gw : xs[m]? = some w := by rw [g2, List.getElem?_append_right (by omega), g3]; simp
    cases p with
    | fz d =>
      obtain ⟨rfl, fw⟩ := lr
      have al := OwAll.mid (o := .fz d) (w := w) (B := []) ⟨fw, rfl⟩ f1 f2
      rw [← g2] at al
      refine ⟨hl, F1, _, [], al, List.nodup_nil, fun b hb => (nomatch hb), r1.tr, fun _ => rfl, ?_⟩
      cases z : c f (ds1.map .fz ++ .fz d :: ds2.map .fz) with
      | bad => rw [z] at h1; exact h1
      | exn x => rw [z] at h1; exact h1.elim
      | ok o' out =>
        rw [z] at h1
        intro v H' F' Sv So ow or nd nf ft st
        rw [g1] at h1
        have h1 : Post _ _ (bnd (putBack (.fz d) out) (fun _ => ret (Rv.tmp o')) e1) := h1
        cases out with
        | none => exact or.elim
        | some q' =>
          cases q' with
          | fz d' =>
            obtain ⟨w', g4, ow'⟩ := or
            obtain ⟨_, rfl⟩ := ow'
            rw [List.append_nil] at nd nf st
            obtain ⟨r2, t2, s2⟩ := r1.foreign st ft nd nf ow
            exact h1 v H' F' S1 Sv r2 t2 (((s.trans s1).trans s2).weak fun z => by cases z)
          | lst _ => exact h1.elim
          | dct _ _ => exact h1.elim
          | ins _ _ _ => exact h1.elim
    | «at» i ks =>
      obtain ⟨o1, so⟩ := lr
      obtain ⟨_, rt, v0, ge, hv, gp, _, _, _, _, _, _⟩ := at_of r1 o1 so
      obtain ⟨Bp, ow, sB, nB, fB, up⟩ := r1.put ge o1 gp
      have al := OwAll.mid ow f1 f2
      rw [← g2] at al
      refine ⟨hl, F1, _, Bp, al, nB, fB, r1.tr, fun z => by (cases z), ?_⟩
      cases z : c f (ds1.map .fz ++ o :: ds2.map .fz) with
      | bad => rw [z] at h1; exact h1
      | exn x => rw [z] at h1; exact h1.elim
      | ok o' out =>
        rw [z] at h1
        intro v H' F' Sv So ow' or nd nf ft st
        rw [g1] at h1
        have h1 : Post _ _ (bnd (putBack (.at i ks) out) (fun _ => ret (Rv.tmp o')) e1) := h1
        cases out with
        | none => exact or.elim
        | some q' =>
          obtain ⟨w', g4, oq⟩ := or
          rw [gw] at g4; cases g4
          have h1 : Post (OkR K σ os vs T (Option.isNone (some m) && q) Q H0 F0 (S0 ++ T)) (PostX K XR W σ os vs T H0 F0 (S0 ++ T)) (bnd (slot i) (fun r => bnd (opt (setAt r ks q')) fun r' => bnd (setSlot i r') fun _ => ret (Rv.tmp o')) e1) := by
            refine Eq.mp ?_ h1
            congr 1
            show bnd (bnd (slot i) fun r => bnd (opt (setAt r ks q')) fun r' => setSlot i r') (fun _ => ret (Rv.tmp o')) e1 = _
            unfold bnd Out.andThen
            cases slot i e1 with
            | exn x e2 => rfl
            | bad => rfl
            | ok r e2 =>
              simp only
              cases opt (setAt r ks q') e2 with
              | exn x e2 => rfl
              | bad => rfl
              | ok r' e3 => rfl
          obtain ⟨rt', ge', h2⟩ := post_slot h1
          rw [ge] at ge'; cases ge'
          obtain ⟨rn, hs, h3⟩ := post_opt h2
          obtain ⟨_, h4⟩ := post_set h3
          obtain ⟨S', r2, t2, s2⟩ := up F' H' q' So Sv rn o' v st ft nd nf oq ow' hs
          exact h4 v H' F' S' Sv r2 t2 (((s.trans s1).trans s2).weak fun z => by cases z)
end
/-- what is known of a def where it is called -/
structure FnIn (X : Cx) (XR : XRel) (c : CallF) (mu : Option Nat) (np g : Nat) (x : Str) (k : Nat) (fa : Addr) (fd : FuncData) (ps : List Str) : Prop where
  G : FnG X.prog X.w X.K X.mg X.base (L2.CX X.prog X.w) k fa fd ps (Prom X.K XR c mu np g)
  gl : Gl X x
  mg : X.mg x = some (.ref fa)
  kp : PySem.W.keepIn X.K (.ref fa) = true
  bd : Binds X.K fd ps []
  ln : ps.length = np
  db : (x == ("__debug__" : Str)) = false
section
variable {mus : Nat → Option Nat} {c : CallF} {XR : XRel} {W : WX} {X : Cx} {as : List E} {ea : Expr} {es : List Expr} {pos p : Pos} {k np g : Nat} {x : Str} {fa : Addr} {fd : FuncData} {ps : List Str}
theorem mr_call {t : TA} {ix : List V → List V} (mm : MOs X.K XR W (quiets mus as) t (evs mus c as)) (hm : ∀ m, mus g = some m → m < as.length) (hl : as.length = np) :
    MR X.K XR W (quiet mus (.call g as)) (tCl (Prom X.K XR c (mus g) np g) (WE W) id t) (ev mus c (.call g as)) := fun e σ F H os vs S T Q r h => by
  refine mm.bindE r h (fun _ _ z => z) fun ps e1 xs H1 F1 S1 z r1 o1 s1 h1 => ?_
  have ln := evs_len z
  exact calling_of (q := quiets mus as) (fun m e => by rw [ln]; exact hm m e) (by show xs.length = np; rw [o1.length, ln, hl]) r1 o1 s1 h1
theorem se_call (hgu : X.A.guards = some []) (hr : Room k X.A) (tk : Takes X W) (fi : FnIn X XR c (mus g) np g x k fa fd ps) (ha : SA mus c XR W X as (ea :: es)) (hm : ∀ m, mus g = some m → m < as.length) (hl : as.length = np)
    (he : starEach (ea :: es) X.env = (false, eval ea X.env) :: starEach es X.env) (hpl : (backTo pos (starEach es X.env)).any (·.1) = false) : SE mus c XR W X (.call g as) (.Call (.Name x p) (ea :: es) [] pos) := by
  obtain ⟨t, pa, mm⟩ := ha
  exact ⟨_, pe_G (E := WE W) fi.G hgu hr fi.gl fi.mg fi.kp fi.bd (fun σ => passAt tk σ) pa fi.db he hpl, mr_call (ix := id) mm hm hl⟩
theorem se_call0 (hgu : X.A.guards = some []) (hr : Room k X.A) (tk : Takes X W) (fi : FnIn X XR c (mus g) 0 g x k fa fd ps) (hm : mus g = none) : SE mus c XR W X (.call g []) (.Call (.Name x p) [] [] pos) := by
  obtain ⟨t, pa, mm⟩ := (sa_nil : SA mus c XR W X [] [])
  refine ⟨_, pe_G0 (E := WE W) fi.G hgu hr fi.gl fi.mg fi.kp fi.bd (fun σ => passAt tk σ) fi.db, mr_call (as := []) (t := tNil) (ix := id) (fun e σ F H os vs S T Q r h => h [] H F S r rfl Step.refl) (fun m z => by rw [hm] at z; cases z) rfl⟩
end
end HW
end

section
set_option Elab.async false
set_option linter.all false
set_option maxRecDepth 100000
set_option maxHeartbeats 1000000
/-! # Keyword calls; statements -/
namespace HW
open PySem PySem.Spec PyProof.Rows L2
def SK (mus : Nat → Option Nat) (c : CallF) (XR : XRel) (W : WX) (X : Cx) (ms : List E) (kws : List Keyword) : Prop := ∃ t, PK X kws t ∧ MOs X.K XR W (quiets mus ms) t (evs mus c ms)
section
variable {mus : Nat → Option Nat} {c : CallF} {XR : XRel} {W : WX} {X : Cx} {a : E} {as : List E} {ea : Expr} {es : List Expr} {pos p kpos : Pos} {k np g : Nat} {x : Str} {fa : Addr} {fd : FuncData} {ps ks : List Str} {kws : List Keyword} {nm : Option Str} {ix : List Nat}
theorem sk_nil : SK mus c XR W X [] [] := ⟨_, pk_nil, fun e σ F H os vs S T Q r h => h [] H F S r rfl Step.refl⟩
theorem sk_cons (ha : SE mus c XR W X a ea) (hr : SK mus c XR W X as kws) (hd : shallow a = true ∨ quiets mus as = true) : SK mus c XR W X (a :: as) (⟨nm, ea, kpos⟩ :: kws) := by
  obtain ⟨ta, pa, ma⟩ := ha
  obtain ⟨tr, pr, mr⟩ := hr
  refine ⟨_, pk_cons pa pr, fun e σ F H os vs S T Q r h => ?_⟩
  refine ma.opd.bind r h (fun _ _ z => z) fun p e1 x H1 F1 S1 z r1 o1 s1 h1 => ?_
  refine mr.bind r1 h1 (fun x e' hx => PostX.after hx s1) fun ps e2 xs H2 F2 S2 r2 o2 s2 h2 => ?_
  exact h2 (x :: xs) H2 F2 S2 r2 ⟨x, xs, rfl, o1.stay r1 s2 (hd.imp (fun z' => Shal.of z' _ _ _ z) id), o2⟩ (s1.trans s2)
theorem OpdRs.get {K : PySem.W.Frag} {F : Addr → Prop} {H : Hp} {σ : L2.St} : ∀ {ps : List Opd} {xs : List V} {i : Nat} {p : Opd}, OpdRs K F H σ ps xs → ps[i]? = some p → ∃ x, xs[i]? = some x ∧ OpdR K F H σ p x
  | [], _, _, _, _, h => by simp at h
  | q :: ps, _, 0, p, ⟨x, r, e1, h1, _⟩, h => by subst e1; simp at h; subst h; exact ⟨x, rfl, h1⟩
  | q :: ps, _, i + 1, p, ⟨x, r, e1, _, h2⟩, h => by
    subst e1
    obtain ⟨y, g1, g2⟩ := OpdRs.get (i := i) h2 (by simpa using h)
    exact ⟨y, by simpa using g1, g2⟩
theorem OpdRs.pick {K : PySem.W.Frag} {F : Addr → Prop} {H : Hp} {σ : L2.St} {ps : List Opd} {xs : List V} (o : OpdRs K F H σ ps xs) : ∀ {ix : List Nat} {qs : List Opd}, (ix.mapM fun i => ps[i]?) = some qs → ∃ ys, (ix.mapM fun i => xs[i]?) = some ys ∧ OpdRs K F H σ qs ys ∧ qs.length = ix.length
  | [], qs, h => by
    rw [List.mapM_nil] at h; cases h
    exact ⟨[], rfl, rfl, rfl⟩
  | i :: ix, qs, h => by
    rw [List.mapM_cons] at h
    obtain ⟨p, e1, e2⟩ := Option.bind_eq_some_iff.mp h
    obtain ⟨qr, e3, e4⟩ := Option.bind_eq_some_iff.mp e2
    cases e4
    obtain ⟨y, hy, oy⟩ := o.get e1
    obtain ⟨ys, h1, h2, h3⟩ := OpdRs.pick o e3
    exact ⟨y :: ys, by rw [List.mapM_cons, hy, h1]; rfl, ⟨y, ys, rfl, oy, h2⟩, by simp [h3]⟩
theorem se_kcall (hgu : X.A.guards = some []) (hr : Room k X.A) (tk : Takes X W) (fi : FnIn X XR c (mus g) np g x k fa fd ps) (hb : KwB X.K fd ps ks ix) (ha : SK mus c XR W X as kws) (hm : ∀ m, mus g = some m → m < ix.length) (hl : ix.length = np) (hk : as.length = ks.length)
    (hall : (backToKw pos (keywordEach kws X.env)).all (·.1.isSome) = true) (hks : (backToKw pos (keywordEach kws X.env)).filterMap (·.1) = ks)
    (hpl : ((backTo pos (starEach [] X.env)).any (·.1) || (backToKw pos (keywordEach kws X.env)).any (·.1.isNone)) = false) : SE mus c XR W X (.kcall g as ix) (.Call (.Name x p) [] kws pos) := by
  obtain ⟨t, pa, mm⟩ := ha
  refine ⟨_, pe_GK (E := WE W) fi.G hgu hr fi.gl fi.mg fi.kp hb (fun σ => passAt tk σ) pa hall hks fi.db hpl, fun e σ F H os vs S T Q r h => ?_⟩
  refine mm.bindE r h (fun _ _ z => z) fun ps' e1 xs H1 F1 S1 z r1 o1 s1 h1 => ?_
  obtain ⟨qs, hq, h2⟩ := post_opt h1
  obtain ⟨ys, hy, oy, lq⟩ := o1.pick hq
  refine ⟨by rw [o1.length, evs_len z, hk], ys, hy, ?_⟩
  exact calling_of (q := quiets mus as) (fun m e => by rw [lq]; exact hm m e) (by rw [oy.length, lq, hl]) r1 oy s1 h2
end
/-! ## statements -/
def Same (pr : Option Nat) (σ σ' : L2.St) : Prop := ∀ m, pr = some m → σ'[m]? = σ[m]?
section
variable (K : PySem.W.Frag) (XR : XRel) (W : WX) (pr : Option Nat)
def FlR (D : Ends) (σ : L2.St) (H : Hp) (F : Addr → Prop) (S : List Addr) (f : Fl) (e' : Env) : Prop := ∀ σ' H' F' S', Rel K F' H' e' σ' [] [] S' [] → Same pr σ σ' → match f with
  | .nx => Step false H F (S ++ []) H' F' (S' ++ []) → D.nx σ' H'
  | .ct => Step false H F (S ++ []) H' F' (S' ++ []) → D.ct σ' H'
  | .bk => Step false H F (S ++ []) H' F' (S' ++ []) → D.bk σ' H'
  | .rt o => ∀ v Sv, Top K F' H' o v S' Sv [] → Step false H F (S ++ []) H' F' (S' ++ (Sv ++ [])) → D.rt v H'
def FlX (H : Hp) (F : Addr → Prop) (S : List Addr) (x : Exn) (e' : Env) : Prop := ∀ σ' H' F' S' cls d, Rel K F' H' e' σ' [] [] S' [] → Step false H F (S ++ []) H' F' (S' ++ []) → XR x cls d H' F' → W cls d σ' H'
def MS (t : TS) (f : M Fl) : Prop := ∀ e σ F H S (D : Ends), Rel K F H e σ [] [] S [] → Post (FlR K pr D σ H F S) (FlX K XR W H F S) (f e) → t D σ H
end
section
variable (mus : Nat → Option Nat) (c : CallF) (XR : XRel) (W : WX) (pr : Option Nat) (X : Cx)
def SS (m : S) (s : Stmt) : Prop := ∃ t, PS X s t ∧ MS X.K XR W pr t (ex mus c m)
def SB (ms : List S) (ss : List Stmt) : Prop := ∃ t, PSs X ss t ∧ MS X.K XR W pr t (exs mus c ms)
end
section
variable {K : PySem.W.Frag} {XR : XRel} {W : WX} {pr : Option Nat} {F F' F1 : Addr → Prop} {H H' H1 : Hp} {e e' : Env} {σ σ' σ1 : L2.St} {S S' S1 Sv : List Addr} {D : Ends} {q : Bool} {x : Exn}
theorem Same.refl : Same pr σ σ := fun _ _ => rfl
theorem Same.trans (h : Same pr σ σ1) (h' : Same pr σ1 σ') : Same pr σ σ' := fun m z => (h' m z).trans (h m z)
theorem FlX.after (h : FlX K XR W H F S x e') (s : Step q H F (S ++ []) H1 F1 (S1 ++ [])) : FlX K XR W H1 F1 S1 x e' := fun σ' H' F' S' cls d r s' xr => h σ' H' F' S' cls d r ((s.trans s').weak fun z => by cases z) xr
theorem FlX.post (h : FlX K XR W H F S x e') : PostX K XR W σ [] [] [] H F (S ++ []) x e' := fun H' F' S' cls d r s xr => h σ H' F' S' cls d r s xr
theorem FlR.after {f : Fl} (h : FlR K pr D σ H F S f e') (sm : Same pr σ σ1) (s : Step q H F (S ++ []) H1 F1 (S1 ++ [])) : FlR K pr D σ1 H1 F1 S1 f e' := fun σ' H' F' S' r m => by
  have h := h σ' H' F' S' r (sm.trans m)
  cases f with
  | nx => exact fun s' => h ((s.trans s').weak fun z => by cases z)
  | ct => exact fun s' => h ((s.trans s').weak fun z => by cases z)
  | bk => exact fun s' => h ((s.trans s').weak fun z => by cases z)
  | rt o => exact fun v Sv t s' => h v Sv t ((s.trans s').weak fun z => by cases z)
/-- a slot takes the value at hand -/
theorem Rel.take {o : OD} {v : V} {os : List OD} {vs : List V} {T : List Addr} (r : Rel K F H e σ os vs S T) (t : Top K F H o v S Sv T) {i : Nat} (l : i < e.length) : ∃ S', Rel K F H (e.set i (some o)) (σ.set i (some v)) os vs S' T ∧ Step true H F (S ++ (Sv ++ T)) H F (S' ++ T) := by
  obtain ⟨A, C, sub, f1, _⟩ := r.sl.setO l
  have sb : ((A ++ (Sv ++ C)) ++ T).Perm (Sv ++ ((A ++ C) ++ T)) := by
    have := (perm_mid (A := A) (B := Sv) (C := C)).append_right T
    simpa only [List.append_assoc] using this
  have sb2 : (Sv ++ ((A ++ C) ++ T)).Sublist (Sv ++ (S ++ T)) := List.Sublist.append_left (List.Sublist.append_right sub T) Sv
  have pm : (S ++ (Sv ++ T)).Perm (Sv ++ (S ++ T)) := perm_mid
  have mem : ∀ b, b ∈ (A ++ (Sv ++ C)) ++ T → b ∈ S ++ (Sv ++ T) := fun b hb => pm.mem_iff.mpr (sb2.subset (sb.mem_iff.mp hb))
  refine ⟨A ++ (Sv ++ C), ⟨f1 o v Sv t.ow, r.tm, (List.Perm.nodup_iff sb).mpr (((List.Perm.nodup_iff pm).mp t.nd).sublist sb2), fun b hb => ?_, r.tr⟩, Step.sub mem⟩
  have := mem b hb
  simp only [List.mem_append] at this
  rcases this with z | z | z
  · exact r.ap b (List.mem_append_left _ z)
  · exact t.ap b z
  · exact r.ap b (List.mem_append_right _ z)
end
section
variable {mus : Nat → Option Nat} {c : CallF} {XR : XRel} {W : WX} {pr : Option Nat} {X : Cx} {a b d : E} {as : List E} {ea eb ec : Expr} {es : List Expr} {pos p : Pos} {i : Nat} {x : Str} {st : S} {rest : List S} {s : Stmt} {ss : List Stmt}
mutual
theorem tgs_exn : ∀ (t : Tg) (d : PyData) (e : Env) (x : Exn) (e' : Env), tgs t d e = .exn x e' → False
  | .var i, d, e, x, e', h => setSlot_exn h
  | .tup ts, d, e, x, e', h => by
    cases d with
    | tuple ds =>
      have h : (if ts.length = ds.length then tgs.go ts ds else bad) e = .exn x e' := h
      split at h
      · exact tgs_go_exn ts ds e x e' h
      · cases h
    | _ => cases h
theorem tgs_go_exn : ∀ (ts : List Tg) (ds : List PyData) (e : Env) (x : Exn) (e' : Env), tgs.go ts ds e = .exn x e' → False
  | [], _, _, _, _, h => by unfold tgs.go at h; cases h
  | t :: ts, [], _, _, _, h => by unfold tgs.go at h; cases h
  | t :: ts, d :: ds, e, x, e', h => by
    rcases bnd_exn (m := tgs t d) (k := fun _ => tgs.go ts ds) h with z | ⟨u, e1, _, z⟩
    · exact tgs_exn t d e x e' z
    · exact tgs_go_exn ts ds e1 x e' z
end
theorem sb_nil : SB mus c XR W pr X [] [] := ⟨_, pss_nil, fun e σ F H S D r h => h σ H F S r Same.refl Step.refl⟩
theorem sb_cons (h1 : SS mus c XR W pr X st s) (h2 : SB mus c XR W pr X rest ss) : SB mus c XR W pr X (st :: rest) (s :: ss) := by
  obtain ⟨t, p1, m1⟩ := h1
  obtain ⟨u, p2, m2⟩ := h2
  refine ⟨_, pss_cons p1 p2, fun e σ F H S D r h => ?_⟩
  have h : Post (FlR X.K pr D σ H F S) (FlX X.K XR W H F S) (bnd (ex mus c st) (fun f => match f with | .nx => exs mus c rest | f => ret f) e) := h
  refine m1 e σ F H S { D with nx := u D } r ?_
  unfold bnd Out.andThen at h
  cases z : ex mus c st e with
  | bad => rw [z] at h; exact h
  | exn y e1 => rw [z] at h; exact h
  | ok f e1 =>
    rw [z] at h
    cases f with
    | nx =>
      intro σ1 H1 F1 S1 r1 sm s1
      refine m2 e1 σ1 F1 H1 S1 D r1 ?_
      have h : Post (FlR X.K pr D σ H F S) (FlX X.K XR W H F S) (exs mus c rest e1) := h
      cases z2 : exs mus c rest e1 with
      | bad => rw [z2] at h; exact h
      | exn y e2 => rw [z2] at h; exact FlX.after h s1
      | ok f e2 => rw [z2] at h; exact FlR.after h sm s1
    | ct => exact h
    | bk => exact h
    | rt o => exact h
theorem ss_set {pos' : Pos} (hN : X.N.Nodup) (hi : X.N[i]? = some x) (hx : Loc X.env.scope x) (ha : SE mus c XR W X a ea) (hs : swapsWith ea (some (.Name x pos')) pos.line X.env = pure false) (hf : X.fn x = true ∨ X.env.scope.names.lookup x = some .local) (hp : pr ≠ some i) :
    SS mus c XR W pr X (.set i a) (.Assign [.Name x pos'] ea pos) := by
  obtain ⟨t, pa, ma⟩ := ha
  refine ⟨_, ps_set hN hi hx pa hs hf, fun e σ F H S D r h => ?_⟩
  refine ma.val.bind r h (fun x e' hx => hx.post) fun o e1 v H1 F1 S1 Sv r1 t1 s1 h1 => ?_
  obtain ⟨l, h2⟩ := post_set h1
  obtain ⟨S2, r2, s2⟩ := r1.take t1 l
  exact h2 _ H1 F1 S2 r2 (fun m z => List.getElem?_set_ne (fun z' => hp (by rw [z, z']))) ((s1.trans s2).weak fun z => by cases z)
theorem ss_setC {pos' spos : Pos} {y : Str} {xm : E} {cs : List E} {t : Tg} {it : It} {elt tg iter : Expr} {ifs : List Expr} {scope : Scope} {own : List (Str × Nat)} (hc : X.calm = true) (hN : X.N.Nodup) (hy : X.N[i]? = some y) (hyl : X.env.scope.names.lookup y = some .local)
    (hsw : swapsWith (.ListComp elt [⟨tg, iter, ifs, 0⟩] scope pos) (some (.Name y pos')) spos.line X.env = pure true) (hi : SI mus c XR W X it tg iter) (ok : BlkOk X.N X.env.scope scope own) (sub : ∀ j ∈ tgVars t, j ∈ own.map (·.2))
    (hg : ∀ (s : Shared) (H : Hp) (C : Addr) (cl : List (Str × Addr)) (fp : List Addr), SG (X.blk s H scope (compEnvC scope cl C X.env) fp) t tg) (ht : ∀ (s : Shared) (H : Hp) (C : Addr) (cl : List (Str × Addr)) (fp : List Addr), STs mus c XR WF (X.blk s H scope (compEnvC scope cl C X.env) fp) cs ifs)
    (he : ∀ (s : Shared) (H : Hp) (C : Addr) (cl : List (Str × Addr)) (fp : List Addr), SE mus c XR WF (X.blk s H scope (compEnvC scope cl C X.env) fp) xm elt) (hs : ∀ x, foldedSetIterable iter X.env x = pure x) (hp : pr ≠ some i) :
    SS mus c XR W pr X (.set i (.comp t it cs xm (own.map (·.2)))) (.Assign [.Name y pos'] (.ListComp elt [⟨tg, iter, ifs, 0⟩] scope pos) spos) := by
  obtain ⟨wi, pi, mi⟩ := hi
  have ma := lc_mr (x := xm) (cs := cs) (W' := WF) mi sub
  refine ⟨_, ps_setLc (g := gT X.K (tgVars t) (tgs t)) (tt := tT X.K XR WF (quiets mus cs) (evc mus c cs)) (te := tE X.K XR WF (quiet mus xm) (ev mus c xm)) hc hN hy hyl hsw pi ok (fun s H C cl fp => (hg s H C cl fp).can) (fun s H C cl fp => ht s H C cl fp) (fun s H C cl fp => (he s H C cl fp).can) hs, fun e σ F H S D r h => ?_⟩
  refine ma.val.bind r h (fun x e' hx => hx.post) fun o e1 v H1 F1 S1 Sv r1 t1 s1 h1 => ?_
  obtain ⟨l, h2⟩ := post_set h1
  obtain ⟨S2, r2, s2⟩ := r1.take t1 l
  exact h2 _ H1 F1 S2 r2 (fun m z => List.getElem?_set_ne (fun z' => hp (by rw [z, z']))) ((s1.trans s2).weak fun z => by cases z)
theorem ss_expr (ha : SE mus c XR W X a ea) (hs : swapsWith ea none pos.line X.env = pure false) : SS mus c XR W pr X (.expr a) (.Expr ea pos) := by
  obtain ⟨t, pa, ma⟩ := ha
  refine ⟨_, ps_expr pa hs, fun e σ F H S D r h => ?_⟩
  refine ma.opd.bind r h (fun x e' hx => hx.post) fun p e1 v H1 F1 S1 z r1 o1 s1 h1 => ?_
  exact h1 σ H1 F1 S1 r1 Same.refl (s1.weak fun z => by cases z)
theorem ss_pass : SS mus c XR W pr X .pass (.Pass pos) := ⟨_, ps_pass, fun e σ F H S D r h => h σ H F S r Same.refl Step.refl⟩
theorem ss_cont : SS mus c XR W pr X .cont (.Continue pos) := ⟨_, ps_continue, fun e σ F H S D r h => h σ H F S r Same.refl Step.refl⟩
theorem ss_brk : SS mus c XR W pr X .brk (.Break pos) := ⟨_, ps_break, fun e σ F H S D r h => h σ H F S r Same.refl Step.refl⟩
theorem ss_retN : SS mus c XR W pr X .rtN (.Return none pos) := ⟨_, ps_retN, fun e σ F H S D r h => h σ H F S r Same.refl .non [] (fz_top r rfl) Step.refl⟩
theorem ss_ret (ha : SE mus c XR W X a ea) : SS mus c XR W pr X (.rt a) (.Return (some ea) pos) := by
  obtain ⟨t, pa, ma⟩ := ha
  refine ⟨_, ps_ret pa, fun e σ F H S D r h => ?_⟩
  have h : Post (FlR X.K pr D σ H F S) (FlX X.K XR W H F S) (bnd (bnd (ev mus c a) leave) (fun o => ret (Fl.rt o)) e) := h
  have h : Post (FlR X.K pr D σ H F S) (FlX X.K XR W H F S) (bnd (ev mus c a) (fun rv => bnd (leave rv) fun o => ret (Fl.rt o)) e) := by
    refine Eq.mp ?_ h
    congr 1
    unfold bnd Out.andThen
    cases ev mus c a e <;> rfl
  refine ma.bind r h (fun x e' hx => hx.post) (fun o e1 v H1 F1 S1 Sv r1 t1 s1 h1 => ?_) (fun j ks e1 v H1 F1 S1 r1 o1 s1 h1 => ?_)
  · exact h1 σ H1 F1 S1 r1 Same.refl v Sv t1 (s1.weak fun z => by cases z)
  · have h1 : Post (FlR X.K pr D σ H F S) (FlX X.K XR W H F S) (bnd (bnd (slot j) fun o => if ks.isEmpty then (fun e => Out.ok o (e.set j none)) else bad) (fun o => ret (Fl.rt o)) e1) := h1
    have h1 : Post (FlR X.K pr D σ H F S) (FlX X.K XR W H F S) (bnd (slot j) (fun o => bnd (if ks.isEmpty then (fun e => Out.ok o (e.set j none)) else bad) fun o => ret (Fl.rt o)) e1) := by
      refine Eq.mp ?_ h1
      congr 1
      unfold bnd Out.andThen
      cases slot j e1 <;> rfl
    obtain ⟨o, g, h2⟩ := post_slot h1
    cases ks with
    | cons _ _ => exact h2.elim
    | nil =>
      have h2 : FlR X.K pr D σ H F S (.rt o) (e1.set j none) := h2
      obtain ⟨v0, A, B, C, g1, rfl, g3, _, g5⟩ := r1.sl.split g
      obtain ⟨v1, hv, pv⟩ := o1
      obtain rfl : v = v1 := pv
      rw [g1] at hv; cases hv
      have sl := g5 F1 H1 (fun _ z => z) (fun _ _ _ z => z) (fun _ _ _ z => z)
      have pm : (A ++ (B ++ C)).Perm ((A ++ C) ++ B) := perm_mid.trans List.perm_append_comm
      have sub : ((A ++ C) ++ []).Sublist ((A ++ C) ++ (B ++ [])) := List.Sublist.append_left (List.nil_sublist _) _
      have nd : ((A ++ C) ++ (B ++ [])).Nodup := by
        have n := r1.nd
        rw [List.append_nil] at n ⊢
        exact (List.Perm.nodup_iff pm).mp n
      have mem : ∀ b, b ∈ (A ++ C) ++ (B ++ []) → b ∈ (A ++ (B ++ C)) ++ [] := fun b hb => by
        rw [List.append_nil] at hb ⊢
        exact pm.mem_iff.mpr hb
      refine h2 σ H1 F1 (A ++ C) ⟨sl, r1.tm, nd.sublist sub, fun b hb => r1.ap b (mem b (sub.subset hb)), r1.tr⟩ Same.refl v B ⟨g3, nd, fun b hb => r1.ap b (mem b (by simp [hb]))⟩ ((s1.trans (Step.sub mem : Step true H1 F1 _ H1 F1 _)).weak fun z => by cases z)
theorem ss_ite {ma mb : List S} {sa sb : List Stmt} (hc : ST mus c XR W X d ec) (ha : SB mus c XR W pr X ma sa) (hb : SB mus c XR W pr X mb sb) : SS mus c XR W pr X (.ite d ma mb) (.If ec sa sb pos) := by
  obtain ⟨t, pt, mt⟩ := hc
  obtain ⟨ta, pa, ma'⟩ := ha
  obtain ⟨tb, pb, mb'⟩ := hb
  refine ⟨_, ps_if pt pa pb, fun e σ F H S D r h => ?_⟩
  refine mt.bind r h (fun x e' hx => FlX.post hx) fun k e1 H1 F1 S1 r1 s1 h1 => ?_
  cases k with
  | true =>
    rw [if_pos rfl]
    refine ma' e1 σ F1 H1 S1 D r1 ?_
    rw [if_pos rfl] at h1
    cases z : exs mus c ma e1 with
    | bad => rw [z] at h1; exact h1
    | exn y e2 => rw [z] at h1; exact FlX.after h1 s1
    | ok f e2 => rw [z] at h1; exact FlR.after h1 Same.refl s1
  | false =>
    rw [if_neg Bool.false_ne_true]
    refine mb' e1 σ F1 H1 S1 D r1 ?_
    rw [if_neg Bool.false_ne_true] at h1
    cases z : exs mus c mb e1 with
    | bad => rw [z] at h1; exact h1
    | exn y e2 => rw [z] at h1; exact FlX.after h1 s1
    | ok f e2 => rw [z] at h1; exact FlR.after h1 Same.refl s1
theorem ss_while {mb : List S} {sb : List Stmt} (hp : PassesOwn (model X.prog X.w) X.A X.env X.xe) (hc : ST mus c XR W X d ec) (hb : SB mus c XR W pr X mb sb) : SS mus c XR W pr X (.whl d mb) (.While ec sb [] pos) := by
  obtain ⟨t, pt, mt⟩ := hc
  obtain ⟨tb, pb, mb'⟩ := hb
  refine ⟨_, ps_while hp pt pb, fun e σ F H S D r h => ?_⟩
  have h : Post (FlR X.K pr D σ H F S) (FlX X.K XR W H F S) (whileL (test mus c d) (exs mus c mb) wf e) := h
  refine ⟨fun m σ' H' => ∃ e' F' S', Rel X.K F' H' e' σ' [] [] S' [] ∧ Same pr σ σ' ∧ Step false H F (S ++ []) H' F' (S' ++ []) ∧ Post (FlR X.K pr D σ H F S) (FlX X.K XR W H F S) (whileL (test mus c d) (exs mus c mb) m e'), ⟨wf, e, F, S, r, Same.refl, Step.refl, h⟩, ?_⟩
  rintro m σ0 H0 ⟨e0, F0, S0, r0, sm0, s0, h0⟩
  cases m with
  | zero => exact h0.elim
  | succ m =>
    have h0 : Post (FlR X.K pr D σ H F S) (FlX X.K XR W H F S) (bnd (test mus c d) (fun k => if k then bnd (exs mus c mb) (fun f => match f with | .nx => whileL (test mus c d) (exs mus c mb) m | .ct => whileL (test mus c d) (exs mus c mb) m | .bk => ret .nx | .rt o => ret (.rt o)) else ret .nx) e0) := h0
    refine mt.bind r0 h0 (fun x e' hx => (FlX.after hx s0).post) fun k e1 H1 F1 S1 r1 s1 h1 => ?_
    have s01 := s0.trans s1
    cases k with
    | false => exact h1 σ0 H1 F1 S1 r1 sm0 (s01.weak fun z => by cases z)
    | true =>
      rw [if_pos rfl] at h1 ⊢
      refine ⟨fun σ' H' => ∃ e' F' S', Rel X.K F' H' e' σ' [] [] S' [] ∧ Same pr σ σ' ∧ Step false H F (S ++ []) H' F' (S' ++ []) ∧ Post (FlR X.K pr D σ H F S) (FlX X.K XR W H F S) (whileL (test mus c d) (exs mus c mb) m e'), fun σ' H' g => ⟨m, Nat.lt_succ_self m, g⟩, ?_⟩
      refine mb' e1 σ0 F1 H1 S1 _ r1 ?_
      unfold bnd Out.andThen at h1
      cases z : exs mus c mb e1 with
      | bad => rw [z] at h1; exact h1
      | exn y e2 => rw [z] at h1; exact FlX.after h1 s01
      | ok f e2 =>
        rw [z] at h1
        intro σ2 H2 F2 S2 r2 sm2
        cases f with
        | nx => exact fun s2 => ⟨e2, F2, S2, r2, sm0.trans sm2, (s01.trans s2).weak fun z => (by cases z), h1⟩
        | ct => exact fun s2 => ⟨e2, F2, S2, r2, sm0.trans sm2, (s01.trans s2).weak fun z => (by cases z), h1⟩
        | bk => exact fun s2 => h1 σ2 H2 F2 S2 r2 (sm0.trans sm2) ((s01.trans s2).weak fun z => by cases z)
        | rt o => exact fun v Sv tp s2 => h1 σ2 H2 F2 S2 r2 (sm0.trans sm2) v Sv tp ((s01.trans s2).weak fun z => by cases z)
theorem ss_for {mb : List S} {sb : List Stmt} {it : It} {t : Tg} {tg iter : Expr} (hp : PassesOwn (model X.prog X.w) X.A X.env X.xe) (hc : X.calm = true) (hi : SI mus c XR W X it tg iter) (hg : SG X t tg) (hb : SB mus c XR W pr X mb sb) (hs : ∀ x, foldedSetIterable iter X.env x = pure x) (hpr : ∀ m, pr = some m → m ∉ tgVars t) :
    SS mus c XR W pr X (.fr t it mb) (.For tg iter sb [] pos) := by
  obtain ⟨wi, pi, mi⟩ := hi
  obtain ⟨g, pg, mg⟩ := hg
  obtain ⟨tb, pb, mb'⟩ := hb
  refine ⟨_, ps_for hp hc pi pg pb hs, fun e σ F H S D r h => ?_⟩
  have h : Post (FlR X.K pr D σ H F S) (FlX X.K XR W H F S) (bnd (evi mus c it) (fun ds => forL (fun d => bnd (tgs t d) fun _ => exs mus c mb) ds) e) := h
  refine mi e σ F H [] [] S [] _ r ?_
  unfold bnd Out.andThen at h
  cases z : evi mus c it e with
  | bad => rw [z] at h; exact h
  | exn y e1 => rw [z] at h; exact FlX.post h
  | ok ds e1 =>
    rw [z] at h
    have h : Post (FlR X.K pr D σ H F S) (FlX X.K XR W H F S) (forL (fun d => bnd (tgs t d) fun _ => exs mus c mb) ds e1) := h
    intro J H1 F1 S1 r1 ir s1
    refine ⟨fun i m σ' H' => ∃ e' F' S', m = ds.length - i ∧ i ≤ ds.length ∧ Rel X.K F' H' e' σ' [] [] S' [] ∧ Same pr σ σ' ∧ Step false H1 F1 (S1 ++ []) H' F' (S' ++ []) ∧ Post (FlR X.K pr D σ H F S) (FlX X.K XR W H F S) (forL (fun d => bnd (tgs t d) fun _ => exs mus c mb) (ds.drop i) e'), ⟨ds.length, e1, F1, S1, rfl, Nat.zero_le _, r1, Same.refl, Step.refl, h⟩, ?_⟩
    rintro i m σ' H' ⟨e', F', S', rfl, li, r', sm', s', h'⟩
    have s1' := s1.trans s'
    by_cases le : i < ds.length
    · right
      have hd : ds[i]? = some ds[i] := List.getElem?_eq_getElem le
      rw [List.drop_eq_getElem_cons le] at h'
      obtain ⟨go, yld⟩ := (ir F' H' s'.fm (r1.fkeep s')).1 i _ hd
      refine ⟨go, fun σ2 H2 => ∃ e2 F2 S2, Rel X.K F2 H2 e2 σ2 [] [] S2 [] ∧ Same pr σ σ2 ∧ Step false H1 F1 (S1 ++ []) H2 F2 (S2 ++ []) ∧ Post (FlR X.K pr D σ H F S) (FlX X.K XR W H F S) (forL (fun d => bnd (tgs t d) fun _ => exs mus c mb) (ds.drop (i + 1)) e2), ?_, ?_⟩
      · rintro σ2 H2 ⟨e2, F2, S2, g1, g2, g3, g4⟩
        exact ⟨ds.length - (i + 1), by omega, e2, F2, S2, rfl, le, g1, g2, g3, g4⟩
      · intro xv H2 hy
        obtain ⟨F2, k1, k2, k3, fz⟩ := yld xv H2 hy
        obtain ⟨r5, s5⟩ := r'.grow k1 k2 k3
        have h' : Post (FlR X.K pr D σ H F S) (FlX X.K XR W H F S) (bnd (bnd (tgs t ds[i]) fun _ => exs mus c mb) (fun f => match f with | .nx => forL (fun d => bnd (tgs t d) fun _ => exs mus c mb) (ds.drop (i + 1)) | .ct => forL (fun d => bnd (tgs t d) fun _ => exs mus c mb) (ds.drop (i + 1)) | .bk => ret .nx | .rt o => ret (.rt o)) e') := h'
        unfold bnd Out.andThen at h'
        cases zt : tgs t ds[i] e' with
        | bad => rw [zt] at h'; exact h'.elim
        | exn y e2 => exact (tgs_exn t ds[i] e' y e2 zt).elim
        | ok u e2 =>
          rw [zt] at h'
          refine mg ds[i] e' e2 u σ' F2 H2 [] [] S' [] xv _ r5 fz zt fun σ3 S3 r3 s3 l3 k3' => ?_
          refine mb' e2 σ3 F2 H2 S3 _ r3 ?_
          have sm3 : Same pr σ σ3 := sm'.trans fun m e => k3' m (hpr m e)
          have st3 := (s'.trans s5).trans s3
          cases zb : exs mus c mb e2 with
          | bad => simp only [zb] at h'; exact h'.elim
          | exn y e3 => simp only [zb] at h'; exact FlX.after h' (s1.trans st3)
          | ok f e3 =>
            simp only [zb] at h'
            intro σ4 H4 F4 S4 r4 sm4
            cases f with
            | nx => exact fun s4 => ⟨e3, F4, S4, r4, sm3.trans sm4, (st3.trans s4).weak fun z => (by cases z), h'⟩
            | ct => exact fun s4 => ⟨e3, F4, S4, r4, sm3.trans sm4, (st3.trans s4).weak fun z => (by cases z), h'⟩
            | bk => exact fun s4 => h' σ4 H4 F4 S4 r4 (sm3.trans sm4) (((s1.trans st3).trans s4).weak fun z => by cases z)
            | rt o => exact fun v Sv tp s4 => h' σ4 H4 F4 S4 r4 (sm3.trans sm4) v Sv tp (((s1.trans st3).trans s4).weak fun z => by cases z)
    · left
      have ei : i = ds.length := by omega
      subst ei
      refine ⟨(ir F' H' s'.fm (r1.fkeep s')).2, ?_⟩
      rw [List.drop_length] at h'
      exact h' σ' H' F' S' r' sm' (s1'.weak fun z => by cases z)
end
end HW
end

section
set_option Elab.async false
set_option linter.all false
set_option maxRecDepth 100000
set_option maxHeartbeats 1000000
/-! # Stores -/
namespace HW
open PySem PySem.Spec PyProof.Rows L2
def setAllS : List Nat → List V → L2.St → L2.St
  | i :: is, v :: vs, σ => setAllS is vs (σ.set i (some v))
  | _, _, σ => σ
section
variable {K : PySem.W.Frag} {XR : XRel} {W : WX} {pr : Option Nat} {F F' F1 : Addr → Prop} {H H' H1 : Hp} {e e' e1 : Env} {σ σ' σ1 : L2.St} {S S' S1 Sv T : List Addr} {D : Ends} {q : Bool} {mus : Nat → Option Nat} {c : CallF}
theorem stores_exn : ∀ {is : List Nat} {ws : List OD} {e : Env} {x : Exn} {e1 : Env}, stores mus c (is.map .var) ws e = .exn x e1 → False
  | [], [], _, _, _, h => by cases h
  | [], _ :: _, _, _, _, h => by cases h
  | _ :: _, [], _, _, _, h => by cases h
  | i :: is, o :: ws, e, x, e1, h => by
    rcases bnd_exn (m := setSlot i o) (k := fun _ => stores mus c (is.map .var) ws) h with z | ⟨u, e2, _, z⟩
    · exact setSlot_exn z
    · exact stores_exn z
theorem stores_vars : ∀ {is : List Nat} {ws : List OD} {xs : List V} {e : Env} {σ : L2.St} {S T : List Addr} {u : Unit} {e1 : Env}, Rel K F H e σ ws xs S T → stores mus c (is.map .var) ws e = .ok u e1 → is.length = xs.length ∧ ∃ S1, Rel K F H e1 (setAllS is xs σ) [] [] S1 [] ∧ Step true H F (S ++ T) H F (S1 ++ [])
  | [], [], xs, e, σ, S, T, u, e1, r, h => by
    injection h with h1 h2
    subst h2
    obtain ⟨rfl, rfl⟩ := r.tm
    exact ⟨rfl, S, r, Step.refl⟩
  | [], _ :: _, xs, e, σ, S, T, u, e1, r, h => by cases h
  | _ :: _, [], xs, e, σ, S, T, u, e1, r, h => by cases h
  | i :: is, o :: ws, xs, e, σ, S, T, u, e1, r, h => by
    obtain ⟨u1, e2, h1, h2⟩ := bnd_ok (m := setSlot i o) (k := fun _ => stores mus c (is.map .var) ws) h
    obtain ⟨l, rfl⟩ := setSlot_of h1
    obtain ⟨x, xr, Sv, T2, rfl, ow, owr, rfl⟩ := r.tm
    obtain ⟨r1, t1⟩ := Rel.pop (Sv := Sv) (T := T2) r (Ow.len o x Sv ow)
    obtain ⟨S2, r2, s2⟩ := r1.take t1 l
    obtain ⟨ln, S3, r3, s3⟩ := stores_vars r2 h2
    exact ⟨by simp [ln], S3, r3, s2.trans s3⟩
theorem setAllS_same : ∀ {is : List Nat} {xs : List V} {σ : L2.St}, (∀ i ∈ is, pr ≠ some i) → Same pr σ (setAllS is xs σ)
  | [], _, σ, _ => Same.refl
  | _ :: _, [], σ, _ => Same.refl
  | i :: is, v :: vs, σ, h => Same.trans (σ1 := σ.set i (some v)) (fun m z => List.getElem?_set_ne (fun z' => h i List.mem_cons_self (by rw [z, z']))) (setAllS_same fun j hj => h j (List.mem_cons_of_mem _ hj))
theorem TopAll.rel {ws : List OD} {xs : List V} {Sx : List Addr} (r : Rel K F H e σ [] [] S []) (t : TopAll K F H ws xs S Sx []) : Rel K F H e σ ws xs S Sx :=
  ⟨r.sl, t.ow, by have := t.nd; rwa [List.append_nil] at this, fun b hb => (List.mem_append.mp hb).elim (fun z => r.ap b (List.mem_append_left _ z)) (t.ap b), r.tr⟩
end
section
variable {mus : Nat → Option Nat} {c : CallF} {XR : XRel} {W : WX} {pr : Option Nat} {X : Cx} {a b d ix : E} {as : List E} {ea eb ec tg : Expr} {es : List Expr} {pos p px py pz pt pt2 : Pos} {i j l kt k2 : Nat} {x y z : Str} {t : Tg}
theorem par_ta {is : List Nat} {ta : TA} {G : List V → Hp → Prop} {e : Env} {σ : L2.St} {F : Addr → Prop} {H : Hp} {S : List Addr} {D : Ends} (mm : MVs X.K XR W (quiets mus as) ta (evo mus c as)) (hp : ∀ i ∈ is, pr ≠ some i) (r : Rel X.K F H e σ [] [] S [])
    (h : Post (FlR X.K pr D σ H F S) (FlX X.K XR W H F S) (ex mus c (.par (is.map .var) as) e)) (hG : ∀ vs H1, is.length = vs.length → D.nx (setAllS is vs σ) H1 → G vs H1) : ta σ H G := by
  have h : Post (FlR X.K pr D σ H F S) (FlX X.K XR W H F S) (bnd (evo mus c as) (fun os => bnd (stores mus c (is.map .var) os) fun _ => ret .nx) e) := h
  refine mm.bind r h (fun x e' hx => hx.post) fun ws e1 xs H1 F1 S1 Sx r1 t1 s1 h1 => ?_
  rcases post_bnd h1 with ⟨u, e2, h2, h3⟩ | ⟨x, e2, h2, _⟩
  · obtain ⟨ln, S2, r2, s2⟩ := stores_vars (t1.rel r1) h2
    have s1 : Step (quiets mus as) H F (S ++ []) H1 F1 (S1 ++ Sx) := by
      have := s1
      rwa [List.append_nil Sx] at this
    exact hG xs H1 ln (h3 _ H1 F1 S2 r2 (setAllS_same hp) ((s1.trans s2).weak fun z => by cases z))
  · exact (stores_exn h2).elim
theorem ss_par (hc : X.calm = true) (hN : X.N.Nodup) (hi : X.N[i]? = some x) (hj : X.N[j]? = some y) (hij : i ≠ j) (hx : X.env.scope.names.lookup x = some .local) (hy : X.env.scope.names.lookup y = some .local) (ha : SV mus c XR W X as [ea, eb])
    (hw : swappedStores [.Tuple [.Name x px, .Name y py] kt pt] (.Tuple [ea, eb] k2 pt2) X.env = pure (some [x, y])) (hs : swapsWithSole [.Tuple [.Name x px, .Name y py] kt pt] (.Tuple [ea, eb] k2 pt2) pos.line X.env = pure false) (hp : ∀ k ∈ [i, j], pr ≠ some k) :
    SS mus c XR W pr X (.par [.var i, .var j] as) (.Assign [.Tuple [.Name x px, .Name y py] kt pt] (.Tuple [ea, eb] k2 pt2) pos) := by
  obtain ⟨ta, pa, mm⟩ := ha
  refine ⟨_, L2.ps_par hc hN hi hj hij hx hy pa hw hs, fun e σ F H S D r h => par_ta (is := [i, j]) mm hp r h fun vs H1 ln nx => ?_⟩
  match vs, ln, nx with
  | [v, w], _, nx => exact ⟨v, w, rfl, nx⟩
theorem ss_par3 (hc : X.calm = true) (hN : X.N.Nodup) (hi : X.N[i]? = some x) (hj : X.N[j]? = some y) (hl : X.N[l]? = some z) (hij : i ≠ j) (hil : i ≠ l) (hjl : j ≠ l) (hx : X.env.scope.names.lookup x = some .local) (hy : X.env.scope.names.lookup y = some .local) (hz : X.env.scope.names.lookup z = some .local) (ha : SV mus c XR W X as [ea, eb, ec])
    (hw : swappedStores [.Tuple [.Name x px, .Name y py, .Name z pz] kt pt] (.Tuple [ea, eb, ec] k2 pt2) X.env = pure (some [x, y, z])) (hs : swapsWithSole [.Tuple [.Name x px, .Name y py, .Name z pz] kt pt] (.Tuple [ea, eb, ec] k2 pt2) pos.line X.env = pure false) (hp : ∀ k ∈ [i, j, l], pr ≠ some k) :
    SS mus c XR W pr X (.par [.var i, .var j, .var l] as) (.Assign [.Tuple [.Name x px, .Name y py, .Name z pz] kt pt] (.Tuple [ea, eb, ec] k2 pt2) pos) := by
  obtain ⟨ta, pa, mm⟩ := ha
  refine ⟨_, ps_par3 hc hN hi hj hl hij hil hjl hx hy hz pa hw hs, fun e σ F H S D r h => par_ta (is := [i, j, l]) mm hp r h fun vs H1 ln nx => ?_⟩
  match vs, ln, nx with
  | [v, w, u], _, nx => exact ⟨v, w, u, rfl, nx⟩
theorem ss_unp (ha : SE mus c XR W X a ea) (hg : SG X t tg) (hs : swapsWithSole [tg] ea pos.line X.env = pure false) (hw : swappedStores [tg] ea X.env = pure none) (h1 : (assignEach [tg] X.env).map (·.2) = [assign tg X.env]) (hpr : ∀ m, pr = some m → m ∉ tgVars t) :
    SS mus c XR W pr X (.unp t a) (.Assign [tg] ea pos) := by
  obtain ⟨ta, pa, ma⟩ := ha
  obtain ⟨g, pg, mg⟩ := hg
  refine ⟨_, ps_asg pa pg hs hw h1, fun e σ F H S D r h => ?_⟩
  refine ma.valD.bind r h (fun x e' hx => hx.post) fun d e1 v H1 F1 S1 r1 f1 s1 h1 => ?_
  rcases post_bnd h1 with ⟨u, e2, h2, h3⟩ | ⟨x, e2, h2, _⟩
  · refine mg d e1 e2 u σ F1 H1 [] [] S1 [] v _ r1 f1 h2 fun σ2 S2 r2 s2 l2 k2 => ?_
    exact h3 σ2 H1 F1 S2 r2 (fun m z => k2 m (hpr m z)) ((s1.trans s2).weak fun z => by cases z)
  · exact (tgs_exn t d e1 x e2 h2).elim
theorem put_bind {K : PySem.W.Frag} {D : Ends} {σ : L2.St} {H : Hp} {F : Addr → Prop} {S : List Addr} {e : Env} (m : M Fl) (h : Post (FlR K pr D σ H F S) (FlX K XR W H F S) (m e)) : Post (FlR K pr D σ H F S) (FlX K XR W H F S) (m e) := h
theorem ss_put (ha : SE mus c XR W X a ea) (hi : SE mus c XR W X ix eb) (hv : SE mus c XR W X d ec) (hd : shallow a = true ∨ quiet mus ix = true)
    (hg : ∀ v, assign (.Subscript ea eb p) X.env v = (do
      let ov ← holding [v] (eval ea X.env)
      let iv ← holding [v, ov] (eval eb X.env)
      standAt p
      holding [v, ov, iv] (setItem ov iv v)
      release [v, ov, iv] []))
    (hs : swapsWithSole [.Subscript ea eb p] ec pos.line X.env = pure false) (hw : swappedStores [.Subscript ea eb p] ec X.env = pure none) (h1 : (assignEach [.Subscript ea eb p] X.env).map (·.2) = [assign (.Subscript ea eb p) X.env]) :
    SS mus c XR W pr X (.put a ix d) (.Assign [.Subscript ea eb p] ec pos) := by
  obtain ⟨ta, pa, ma⟩ := ha
  obtain ⟨ti, pi, mi⟩ := hi
  obtain ⟨tv, pv, mv⟩ := hv
  refine ⟨_, ps_asg pv (pg_sub pa pi set_list hg) hs hw h1, fun e σ F H S D r h => ?_⟩
  refine mv.valD.bind r h (fun x e' hx => hx.post) fun dd e1 v H1 F1 S1 r1 f1 s1 h1 => ?_
  have go : ∀ rv e2, ev mus c a e1 = .ok rv e2 → ∀ H2 F2 S2 x, Rel X.K F2 H2 e2 σ [] [] S2 [] → (∀ j ks, rv = .at j ks → OpdR X.K F2 H2 σ (.at j ks) x) → Step (quiet mus a) H1 F1 (S1 ++ []) H2 F2 (S2 ++ []) → Post (FlR X.K pr D σ H F S) (FlX X.K XR W H F S) (bnd (bnd (ev mus c ix) opd) (fun q => bnd (see q) fun k => bnd (putAt rv k dd) fun _ => ret .nx) e2) →
      ti σ H2 fun i H3 => rSetL x i v H3 fun H4 => D.nx σ H4 := by
    intro rv e2 z H2 F2 S2 x r2 ox s2 h2
    refine mi.opd.bind r2 h2 (fun x e' hx => (FlX.after (FlX.after hx s1) s2).post) fun q e3 y H3 F3 S3 zz r3 o3 s3 h3 => ?_
    obtain ⟨k, fk, h4⟩ := see_of r3 o3 h3
    cases rv with
    | tmp o => exact h4.elim
    | «at» j ks =>
      have o2 := ox j ks rfl
      have o2' : OpdR X.K F3 H3 σ (.at j ks) x := o2.stay r2 s3 (hd.imp (fun sh i' ks' er => by cases er; exact shal_of_shallow a e1 _ _ e2 sh z) id)
      have h4 : Post (FlR X.K pr D σ H F S) (FlX X.K XR W H F S) (bnd (slot j) (fun r => bnd (opt (getAt r ks)) fun o => bnd (opt (putD o k dd)) fun o' => bnd (opt (setAt r ks o')) fun r' => bnd (setSlot j r') fun _ => ret .nx) e3) := by
        refine Eq.mp ?_ h4
        congr 1
        show bnd (bnd (slot j) fun r => bnd (opt (getAt r ks)) fun o => bnd (opt (putD o k dd)) fun o' => bnd (opt (setAt r ks o')) fun r' => setSlot j r') (fun _ => ret Fl.nx) e3 = _
        unfold bnd Out.andThen
        cases slot j e3 with
        | exn x e2 => rfl
        | bad => rfl
        | ok r e4 =>
          simp only
          cases opt (getAt r ks) e4 with
          | exn x e2 => rfl
          | bad => rfl
          | ok o e5 =>
            simp only
            cases opt (putD o k dd) e5 with
            | exn x e2 => rfl
            | bad => rfl
            | ok o' e6 =>
              simp only
              cases opt (setAt r ks o') e6 <;> rfl
      obtain ⟨o, ge, h5⟩ := post_slot h4
      obtain ⟨po, gp, h6⟩ := post_opt h5
      obtain ⟨pn, hp, h7⟩ := post_opt h6
      obtain ⟨rn, hset, h8⟩ := post_opt h7
      obtain ⟨_, h9⟩ := post_set h8
      obtain ⟨Bp, ow, sB, nB, fB, up⟩ := r3.put ge o2' gp
      cases po with
      | lst os =>
        cases k with
        | int i =>
          obtain ⟨jj, e7, rfl⟩ := Option.map_eq_some_iff.mp (show (place os.length i).map (fun j => OD.lst (os.set j (.fz dd))) = some pn from hp)
          obtain ⟨ad, xs, S', rfl, hH, al, rfl⟩ := ow
          have lt : jj < os.length := by
            unfold place at e7
            split at e7
            · split at e7
              · cases e7; omega
              · cases e7
            · split at e7
              · cases e7; omega
              · cases e7
          have fv : Fz X.K F3 H3 dd v := r2.fz s3 (r1.fz s2 f1)
          obtain ⟨x0, A, B, C, g1, rfl, g3, g4⟩ := al.split (List.getElem?_eq_getElem lt)
          obtain ⟨n1, n2⟩ := List.nodup_cons.mp nB
          have aF : ¬ F3 ad := fB ad List.mem_cons_self
          have kF : ∀ b u, F3 b → H3 b = some u → upd H3 ad (.lst (xs.set jj v)) b = some u := fun b u hf hu => by
            rw [upd_ne (by rintro rfl; exact aF hf)]; exact hu
          have kS : ∀ b u, b ∈ A ++ C → H3 b = some u → upd H3 ad (.lst (xs.set jj v)) b = some u := fun b u hb hu => by
            rw [upd_ne (by rintro rfl; exact n1 (by rcases List.mem_append.mp hb with z | z <;> simp [z]))]; exact hu
          have al' := g4 F3 (upd H3 ad (.lst (xs.set jj v))) (.fz dd) v [] (fun _ z => z) kF kS ⟨Fz.mono (fun _ z => z) kF dd v fv, rfl⟩
          have sub : (ad :: (A ++ ([] ++ C))).Sublist (ad :: (A ++ (B ++ C))) := List.Sublist.cons_cons ad (List.Sublist.append_left (List.sublist_append_right B C) A)
          obtain ⟨S4, r4, t4, s4⟩ := up F3 (upd H3 ad (.lst (xs.set jj v))) (.lst (os.set jj (.fz dd))) (ad :: (A ++ ([] ++ C))) [] rn (.fz .none) .non
            ⟨fun b u hu hb => by
              rw [upd_ne (by rintro rfl; exact (hb.elim (fun z => nomatch z) fun z => z List.mem_cons_self))]; exact hu, upd_trk, fun _ z => z, fun _ z => .inl z, fun b hb => .inl (sub.subset hb)⟩
            (fun b z => upd_trk b (r3.tr b z)) (nB.sublist sub) (fun b hb => fB b (sub.subset hb)) ⟨ad, _, _, rfl, upd_same, al', rfl⟩ ⟨rfl, rfl⟩ hset
          have fy : y = .int i := fk
          refine ⟨ad, xs, i, jj, rfl, fy, hH, by rw [al.length, ← place_ixN]; exact e7, ?_⟩
          exact h9 σ _ F3 S4 r4 Same.refl ((((s1.trans s2).trans s3).trans s4).weak fun z => by cases z)
        | _ => cases hp
      | fz _ => cases k <;> cases hp
      | dct _ _ => cases k <;> cases hp
      | ins _ _ _ => cases k <;> cases hp
  have h1 : Post (FlR X.K pr D σ H F S) (FlX X.K XR W H F S) (bnd (ev mus c a) (fun rv => bnd (isAt rv) fun _ => bnd (bnd (ev mus c ix) opd) (fun q => bnd (see q) fun k => bnd (putAt rv k dd) fun _ => ret .nx)) e1) := h1
  refine ma e1 σ F1 H1 [] [] S1 [] _ r1 ?_
  cases z : ev mus c a e1 with
  | bad => unfold bnd Out.andThen at h1; rw [z] at h1; exact h1
  | exn x e2 => unfold bnd Out.andThen at h1; rw [z] at h1; exact (FlX.after h1 s1).post
  | ok rv e2 =>
    unfold bnd at h1
    rw [z] at h1
    cases rv with
    | tmp o => exact h1.elim
    | «at» j ks => exact fun x H2 F2 S2 r2 o2 s2 => go (.at j ks) e2 z H2 F2 S2 x r2 (fun j' ks' er => by cases er; exact o2) s2 h1
end
end HW
end

section
set_option Elab.async false
set_option linter.all false
set_option maxRecDepth 100000
set_option maxHeartbeats 1000000
/-! # A def keeps its promise -/
namespace HW
open PySem PySem.Spec PyProof.Rows L2
/-- a def by its body, where no guard stands -/
theorem fn_ofG {CX : CXT} {P : Program} {w : World} {K : PySem.W.Frag} {mg : Str → Option Value} {base : Heap} {k : Nat} {f : Addr} {name qual : Str} {params : Arguments} {body : List Stmt} {scope : Scope} {dV kV doc pm cdv ct oc : Value} {an od : Option Addr}
    {osl : Array (Option Value)} {N ps : List Str} {sp : Sp} (look : K.lookup f = some ⟨oc, od, .func (PySem.W.fnOf name qual params body scope dV kV doc pm an cdv ct), osl⟩) (code : PySem.W.codeIn K cdv qual = true) (fs : FnScope N ps scope)
    (len : ∀ vs H Q E, sp vs H Q E → vs.length = ps.length)
    (does : ∀ (A : Around) (outer : List PySem.Env) (s : Shared) (H : Hp) (vs : List V) (Q : VK) (E : XK), A.guards = some [] → Room k (A.deeper (envOfC qual scope s.heap.objs.size f cdv)) → sp vs H Q E →
      ∃ t, PSs (cxOf CX P w K mg base N qual scope f cdv A outer s H E) body t ∧ t { nx := fun _ H' => Q .non H', rt := Q } (start N vs) H) :
    FnG P w K mg base CX (k + 1) f (PySem.W.fnOf name qual params body scope dV kV doc pm an cdv ct) ps sp := by
  refine ⟨len, fun A outer s H args us vs Q E gu room e0 bt vl spv => ?_⟩
  have vlen := len _ _ _ _ spv
  have kin : K.In s.heap := e0.mod.kin.keeps fun b o z => (e0.bs b o z).1
  have nol : s.heap.NoLimit := e0.mod.nolimit.keeps fun b o z => (e0.bs b o z).1
  have kinds : ∀ y ∈ ps.zip us, scope.names.lookup y.1 = some .local ∨ (scope.names.lookup y.1 = some .cell ∧ ((cellsFrom (s.heap.objs.size + 1) scope.names []).lookup y.1).isSome = true) := fun ⟨n, v⟩ hy =>
    (fs.par n (List.of_mem_zip hy).1).imp id fun z => ⟨z, PySem.W.cellsFrom_some _ _ _ (.inl z)⟩
  refine codeAny_call_function room.depth (kin _ _ look) rfl fs.co fs.gen rfl (PySem.W.codeRec_of kin code) (bt _ _ _ _ ?_)
  refine wpAny_newFunctionEnv_cells fs.kind kinds fun env ee s1 ic => ?_
  subst ee
  refine ⟨nol.keeps ic.toInCall.keep, codeAny_func ?_⟩
  obtain ⟨t, pt, ht⟩ := does A outer s H vs Q E gu (room.deeper _) spv
  have I : Inv (cxOf CX P w K mg base N qual scope f cdv A outer s H E) [] (start N vs) H s1 := inv_start fs room.hd e0 vlen vl ic
  refine wpAny_mono (pt.run [] s1 (start N vs) H _ I ht) (fun fl s' z => ?_) fun _ _ z => z
  have done : ∀ {σ' : L2.St} {H' : Hp} {v : V} {u : Value}, Inv (cxOf CX P w K mg base N qual scope f cdv A outer s H E) [] σ' H' s' → RelV v u → Q v H' → CE outer P w H s Q u s' :=
    fun {σ' H' v u} J rv q => ⟨v, H', J.os, J.bare, J.base, J.hok, rv, q⟩
  cases fl with
  | ret u => obtain ⟨v, σ', H', J, rv, q⟩ := z; exact done J rv q
  | next => obtain ⟨σ', H', J, q⟩ := z; exact done (v := V.non) (u := Value.none) J rfl q
  | brk => obtain ⟨_, _, _, q⟩ := z; exact False.elim q
  | cont => obtain ⟨_, _, _, q⟩ := z; exact False.elim q
section
variable {K : PySem.W.Frag} {XR : XRel} {F F' : Addr → Prop} {H H' : Hp} {S : List Addr}
theorem OwS.none_rep : ∀ n : Nat, ∀ σ : L2.St, σ.length = n → OwS K F H (List.replicate n none) σ []
  | 0, σ, h => ⟨List.length_eq_zero_iff.mp h, rfl⟩
  | n + 1, [], h => by simp at h
  | n + 1, x :: σ, h => ⟨x, σ, rfl, OwS.none_rep n σ (by simpa using h)⟩
theorem OwS.start : ∀ {os : List OD} {vs : List V} {S : List Addr} {n : Nat} {τ : L2.St}, OwAll K F H os vs S → τ.length = n → OwS K F H (os.map some ++ List.replicate n none) (vs.map some ++ τ) S
  | [], vs, S, n, τ, h, l => by
    obtain ⟨rfl, rfl⟩ := h
    exact OwS.none_rep n τ l
  | o :: os, vs, S, n, τ, ⟨x, r, S1, S2, e1, h1, h2, e2⟩, l => by
    subst e1 e2
    exact ⟨x, r.map some ++ τ, S1, S2, rfl, h1, OwS.start h2 l, rfl⟩
theorem start_get {N : List Str} {vs : List V} {m : Nat} {w : V} (h : (L2.start N vs)[m]? = some (some w)) : vs[m]? = some w := by
  unfold L2.start at h
  by_cases l : m < vs.length
  · rw [List.getElem?_append_left (by simpa using l), List.getElem?_map] at h
    cases z : vs[m]? with
    | none => rw [z] at h; cases h
    | some u => rw [z] at h; cases h; rfl
  · rw [List.getElem?_append_right (by simpa using l), List.getElem?_replicate] at h
    split at h <;> cases h
end
/-- the small def's body meets the machine's def's body -/
theorem prom_body {G : Nat → Option Fn} {n g : Nat} {fn : Fn} {K : PySem.W.Frag} {N : List Str} {XR : XRel} {H : Hp} {vs : List V} {Q : VK} {E : XK} {t : TS} (hG : G g = some fn) (hN : N.length = fn.ns)
    (ms : MS K XR (fun cls d _ H' => E cls d H') fn.mu t (exs (fun g => (G g).bind (·.mu)) (callN G n) fn.body)) (h : Prom K XR (callN G (n + 1)) fn.mu fn.np g vs H Q E) : t { nx := fun _ H' => Q .non H', rt := Q } (L2.start N vs) H := by
  obtain ⟨hl, F, os, S, al, nd, nf, ft, hS, hc⟩ := h
  have lo : os.length = fn.np := by rw [← al.length]; exact hl
  have ec : callN G (n + 1) g os = behind fn (exs (fun g => (G g).bind (·.mu)) (callN G n) fn.body (os.map some ++ List.replicate (fn.ns - fn.np) none)) := by
    show (match G g with | none => CRes.bad | some fn => if os.length = fn.np then behind fn (exs (fun g => (G g).bind (·.mu)) (callN G n) fn.body (os.map some ++ List.replicate (fn.ns - fn.np) none)) else .bad) = _
    rw [hG]
    simp only
    rw [if_pos lo]
  rw [ec] at hc
  have r : Rel K F H (os.map some ++ List.replicate (fn.ns - fn.np) none) (L2.start N vs) [] [] S [] := by
    refine ⟨OwS.start al (by rw [List.length_replicate, hN, hl]), ⟨rfl, rfl⟩, by rw [List.append_nil]; exact nd, fun b hb => nf b (by rwa [List.append_nil] at hb), ft⟩
  refine ms _ (L2.start N vs) F H S _ r ?_
  cases z : exs (fun g => (G g).bind (·.mu)) (callN G n) fn.body (os.map some ++ List.replicate (fn.ns - fn.np) none) with
  | bad => rw [z] at hc; exact hc
  | exn x e1 =>
    rw [z] at hc
    obtain ⟨hm, hx⟩ := hc
    intro σ' H' F' S' cls d r' s' xr
    have s' := s'
    rw [hS hm] at s'
    exact hx cls d H' F' r'.tr (s'.perm (fun _ => Iff.rfl) fun b hb => by cases hb) xr
  | ok fl e1 =>
    rw [z] at hc
    -- what lies behind the slots
    have out : ∀ {σ' : L2.St} {H' : Hp} {F' : Addr → Prop} {S' Sv : List Addr} {o : OD} {v : V}, Rel K F' H' e1 σ' [] [] S' [] → Same fn.mu (L2.start N vs) σ' → Top K F' H' o v S' Sv [] → Step false H F (S ++ []) H' F' (S' ++ (Sv ++ [])) →
        (∀ ot, (match fn.mu with | none => (ot : Option OD) = none | some m => ∃ p, e1[m]? = some (some p) ∧ ot = some p) → ∃ So, outR K fn.mu vs ot F' H' So ∧ (Sv ++ So).Nodup ∧ (∀ b ∈ Sv ++ So, ¬ F' b) ∧ Step false H F S H' F' (Sv ++ So)) := by
      intro σ' H' F' S' Sv o v r' sm tp st ot ho
      rw [List.append_nil, List.append_nil] at st
      have tnd := tp.nd
      rw [List.append_nil] at tnd
      cases em : fn.mu with
      | none =>
        rw [em] at ho
        subst ho
        refine ⟨[], rfl, ?_, ?_, ?_⟩
        · rw [List.append_nil]; exact (List.nodup_append.mp tnd).2.1
        · rw [List.append_nil]; exact tp.ap
        · rw [List.append_nil]; exact st.perm (fun _ => Iff.rfl) fun b hb => List.mem_append_right _ hb
      | some m =>
        rw [em] at ho
        obtain ⟨p, hp, rfl⟩ := ho
        obtain ⟨w, A', B, C, g1, rfl, g3, _⟩ := r'.sl.split hp
        have gw := start_get ((sm m em).symm.trans g1)
        have pm : ((A' ++ (B ++ C)) ++ Sv).Perm ((Sv ++ B) ++ (A' ++ C)) := by
          have a1 : ((A' ++ (B ++ C)) ++ Sv).Perm (Sv ++ (A' ++ (B ++ C))) := List.perm_append_comm
          refine a1.trans ?_
          rw [List.append_assoc]
          exact List.Perm.append_left Sv perm_mid
        refine ⟨B, ⟨w, gw, g3⟩, (List.nodup_append.mp ((List.Perm.nodup_iff pm).mp tnd)).1, fun b hb => ?_, st.perm (fun _ => Iff.rfl) fun b hb => pm.mem_iff.mpr (List.mem_append_left _ hb)⟩
        rcases List.mem_append.mp hb with z | z
        · exact tp.ap b z
        · exact r'.ap b (by simp [z])
    have nx : ∀ {σ' : L2.St} {H' : Hp} {F' : Addr → Prop} {S' : List Addr}, fl = .nx → Rel K F' H' e1 σ' [] [] S' [] → Same fn.mu (L2.start N vs) σ' → Step false H F (S ++ []) H' F' (S' ++ []) → Q .non H' := by
      rintro σ' H' F' S' rfl r' sm st
      have tp : Top K F' H' (.fz .none) .non S' [] [] := fz_top r' rfl
      have o := out r' sm tp st
      cases em : fn.mu with
      | none =>
        unfold behind at hc
        simp only [em] at hc o
        obtain ⟨So, o1, o2, o3, o4⟩ := o none rfl
        exact hc .non H' F' [] So ⟨rfl, rfl⟩ o1 o2 o3 r'.tr o4
      | some m =>
        unfold behind at hc
        simp only [em] at hc o
        cases zz : e1[m]? with
        | none => rw [zz] at hc; exact hc.elim
        | some op =>
          cases op with
          | none => rw [zz] at hc; exact hc.elim
          | some p =>
            rw [zz] at hc
            obtain ⟨So, o1, o2, o3, o4⟩ := o (some p) ⟨p, zz, rfl⟩
            exact hc .non H' F' [] So ⟨rfl, rfl⟩ o1 o2 o3 r'.tr o4
    intro σ' H' F' S' r' sm
    cases fl with
    | nx => exact fun st => nx rfl r' sm st
    | ct =>
      unfold behind at hc
      cases em : fn.mu <;> simp only [em] at hc
    | bk =>
      unfold behind at hc
      cases em : fn.mu <;> simp only [em] at hc
    | rt o =>
      intro v Sv tp st
      have oo := out r' sm tp st
      cases em : fn.mu with
      | none =>
        unfold behind at hc
        simp only [em] at hc oo
        obtain ⟨So, o1, o2, o3, o4⟩ := oo none rfl
        exact hc v H' F' Sv So tp.ow o1 o2 o3 r'.tr o4
      | some m =>
        unfold behind at hc
        simp only [em] at hc oo
        cases zz : e1[m]? with
        | none => rw [zz] at hc; exact hc.elim
        | some op =>
          cases op with
          | none => rw [zz] at hc; exact hc.elim
          | some p =>
            rw [zz] at hc
            obtain ⟨So, o1, o2, o3, o4⟩ := oo (some p) ⟨p, zz, rfl⟩
            exact hc v H' F' Sv So tp.ow o1 o2 o3 r'.tr o4
end HW
end

section
set_option Elab.async false
set_option linter.all false
set_option maxRecDepth 100000
set_option maxHeartbeats 1000000
/-! # The check that a text of the small language is the program's; its soundness -/
namespace HW
open PySem PySem.Spec PyProof.Rows L2
structure FnT where
  name : Str
  np : Nat
  kws : List (List Str × List Nat)
def bnames : List Str := ["len", "abs", "int", "bool", "max", "min", "sum", "list", "tuple", "repr", "any", "all", "sorted", "range", "enumerate", "zip", "reversed", "isinstance", "set", "str", "dict"]
def biN : Bi → Str
  | .len => "len" | .abs => "abs" | .int => "int" | .bool => "bool" | .max2 => "max" | .min2 => "min" | .maxL => "max" | .minL => "min" | .sum => "sum" | .list => "list" | .tuple => "tuple" | .repr => "repr" | .any => "any" | .all => "all" | .sorted => "sorted"
def mtN : Mt → Str
  | .append => "append" | .pop => "pop" | .popAt => "pop" | .insert => "insert" | .extend => "extend" | .remove => "remove"
def gl (sc : Scope) (x : Str) : Bool := decide (sc.names.lookup x = some .globalImplicit)
def vis (sc : Scope) (x : Str) : Bool := decide (sc.names.lookup x = some .local) || (decide (sc.names.lookup x = some .cell) || decide (sc.names.lookup x = some .free))
def loc (sc : Scope) (x : Str) : Bool := decide (sc.names.lookup x = some .local) || decide (sc.names.lookup x = some .cell)
def dbg (x : Str) : Bool := (x == ("__debug__" : Str)) || (x == ("__classdict__" : Str))
def notStar : Expr → Bool
  | .Starred .. => false
  | _ => true
def notSet : Expr → Bool
  | .Set .. => false
  | _ => true
def notSlice : Expr → Bool
  | .Slice .. => false
  | _ => true
def isTup : Expr → Bool
  | .Tuple .. => true
  | _ => false
def recv : Expr → Bool
  | .Name .. => true
  | .Subscript .. => true
  | _ => false
def plainT : Expr → Bool
  | .Name .. => true
  | .Subscript .. => true
  | .Call .. => true
  | .Constant .. => true
  | .BinOp .. => true
  | _ => false
def blkB (N : List Str) (sc scope : Scope) (own : List (Str × Nat)) : Bool :=
  decide (scope.kind = .function) && (scope.names.all fun y => decide (scope.names.lookup y.1 = some y.2)) && (own.all fun p => decide (N[p.2]? = some p.1)) &&
  (scope.names.all fun y => !decide (y.2 = .free) || (decide (sc.names.lookup y.1 = some .cell) || decide (sc.names.lookup y.1 = some .free))) &&
  (scope.names.all fun y => !(decide (y.2 = .local) || decide (y.2 = .cell)) || (decide (y.1 ∈ own.map (·.1)) || decide (y.1 ∉ N)))
theorem blk_ok {N : List Str} {sc scope : Scope} {own : List (Str × Nat)} (h : blkB N sc scope own = true) : BlkOk N sc scope own := by
  unfold blkB at h
  simp only [Bool.and_eq_true, List.all_eq_true, decide_eq_true_eq, Bool.or_eq_true, Bool.not_eq_true', decide_eq_false_iff_not] at h
  obtain ⟨⟨⟨⟨h1, h2⟩, h3⟩, h4⟩, h5⟩ := h
  refine ⟨h1, h2, h3, fun y hy e => ?_, fun y hy e => ?_⟩
  · rcases h4 y hy with z | z
    · exact absurd e z
    · exact z
  · rcases h5 y hy with z | z
    · rw [Bool.or_eq_false_iff, decide_eq_false_iff_not, decide_eq_false_iff_not] at z
      exact absurd e (not_or.mpr z)
    · exact z
/-- a block's scope, as the machine finds it within sc -/
def rel (sc scope : Scope) : Scope := { scope with names := scope.names.map fun (n, k) => if (k == NameKind.free && sc.kind == .function && sc.names.lookup n == some .cell) = true then (n, NameKind.cell) else (n, k) }
theorem rel_eq {sc scope : Scope} {env : PySem.Env} (h : env.scope = sc) : relabel scope env = rel sc scope := by
  unfold relabel rel Env.kindOf
  rw [h]
inductive Md where | v | t | w
section
variable (T : Nat → Option FnT) (mus : Nat → Option Nat) (N : List Str)
def okAs (f : E → Expr → Bool) : List E → List Expr → Bool
  | [], [] => true
  | a :: as, e :: es => f a e && ((shallow a || quiets mus as) && (notStar e && okAs f as es))
  | _, _ => false
def okVs (f : E → Expr → Bool) : List E → List Expr → Bool
  | [], [] => true
  | a :: as, e :: es => f a e && (notStar e && okVs f as es)
  | _, _ => false
def okKs (f : E → Expr → Bool) : List E → List Keyword → Bool
  | [], [] => true
  | a :: as, ⟨some _, e, _⟩ :: ks => f a e && ((shallow a || quiets mus as) && okKs f as ks)
  | _, _ => false
def okG : Nat → Scope → Scope → Tg → Expr → Bool
  | 0, _, _, _, _ => false
  | _ + 1, cs, sc, .var i, .Name x _ => decide (N[i]? = some x) && (decide (sc.names.lookup x = some .local) || (decide (sc.names.lookup x = some .cell) && decide (cs.names.lookup x = some .cell)))
  | n + 1, cs, sc, .tup ts, .Tuple es _ _ => go (okG n cs sc) ts es
  | _, _, _, _, _ => false
where go (f : Tg → Expr → Bool) : List Tg → List Expr → Bool
  | [], [] => true
  | t :: ts, e :: es => f t e && (notStar e && go f ts es)
  | _, _ => false
def okI (f : E → Expr → Bool) (sc : Scope) : It → Expr → Expr → Bool
  | .of a, _, e => notSet e && f a e
  | .rng [a], _, .Call (.Name x _) [ea] [] _ => decide (x = "range") && (gl sc "range" && okAs mus f [a] [ea])
  | .rng [a, b], _, .Call (.Name x _) [ea, eb] [] _ => decide (x = "range") && (gl sc "range" && okAs mus f [a, b] [ea, eb])
  | .rng [a, b, d], _, .Call (.Name x _) [ea, eb, ed] [] _ => decide (x = "range") && (gl sc "range" && okAs mus f [a, b, d] [ea, eb, ed])
  | .enm a, tg, .Call (.Name x _) [ea] [] _ => decide (x = "enumerate") && (gl sc "enumerate" && (isTup tg && (notStar ea && f a ea)))
  | .zip as, tg, .Call (.Name x _) [ea, eb] [] _ => decide (x = "zip") && (gl sc "zip" && (isTup tg && okAs mus f as [ea, eb]))
  | .rvs a, _, .Call (.Name x _) [ea] [] _ => decide (x = "reversed") && (gl sc "reversed" && (notStar ea && f a ea))
  | _, _, _ => false
def okLit : PyData → Expr → Bool
  | .int n, .Constant (.int k) _ _ => decide (n = k)
  | .bool n, .Constant (.bool k) _ _ => decide (n = k)
  | .none, .Constant .none _ _ => true
  | .str n, .Constant (.str k) _ _ => decide (n = k)
  | _, _ => false
def okCs (f : E → Expr → Bool) : List E → List Expr → Bool
  | [], [] => true
  | [a], [e] => f a e
  | _, _ => false
def okPo (f : E → Expr → Bool) : List E → Option Expr → Bool
  | [], none => true
  | [a], some e => f a e
  | _, _ => false
def ok : Nat → Md → Scope → E → Expr → Bool
  | 0, _, _, _, _ => false
  | n + 1, .v, sc, m, e => match m, e with
    | .var i, .Name x _ => decide (N[i]? = some x) && (vis sc x && !dbg x)
    | .lit d, e => okLit d e
    | .bin o a b, .BinOp ea op eb _ => decide (op = bop o) && (ok n .v sc a ea && (ok n .v sc b eb && (shallow a || quiet mus b)))
    | .neg a, .UnaryOp op ea _ => decide (op = .USub) && ok n .v sc a ea
    | .not a, .UnaryOp op ea _ => decide (op = .Not) && ok n .v sc a ea
    | .cmp o a b, .Compare ea [op] [eb] _ => decide (op = cop o) && (ok n .v sc a ea && (ok n .v sc b eb && ((shallow a || quiet mus b) && notSet eb)))
    | .cmp2 o o' a b d, .Compare ea [op, op'] [eb, ed] _ => decide (op = cop o) && (decide (op' = cop o') && (ok n .v sc a ea && (ok n .v sc b eb && (ok n .v sc d ed && ((shallow a || quiet mus b) && ((shallow b || quiet mus d) && notSet ed))))))
    | m, .BoolOp _ [ea] _ => ok n .v sc m ea
    | .and a b, .BoolOp op (ea :: eb :: rest) pos => decide (op = .And) && (ok n .v sc a ea && ok n .v sc b (.BoolOp .And (eb :: rest) pos))
    | .or a b, .BoolOp op (ea :: eb :: rest) pos => decide (op = .Or) && (ok n .v sc a ea && ok n .v sc b (.BoolOp .Or (eb :: rest) pos))
    | .ite d a b, .IfExp ed ea eb _ => ok n .t sc d ed && (ok n .v sc a ea && ok n .v sc b eb)
    | .tup as, .Tuple es _ _ => okAs mus (ok n .v sc) as es
    | .lst as, .List es _ => okVs (ok n .v sc) as es
    | .rev a, .Subscript ea (.Slice none none (some (.UnaryOp op (.Constant (.int q) _ _) _)) _) _ => decide (op = .USub) && (decide (q = 1) && ok n .v sc a ea)
    | .lrg t a, .Call (.Name x _) [.Call (.Name y _) [ea] [] _] [] _ => decide (y = "range") && (gl sc "range" && (decide (x = if t then ("tuple" : Str) else ("list" : Str)) && (gl sc x && (notStar ea && ok n .v sc a ea))))
    | .lrg2 t a b, .Call (.Name x _) [.Call (.Name y _) [ea, eb] [] _] [] _ => decide (y = "range") && (gl sc "range" && (decide (x = if t then ("tuple" : Str) else ("list" : Str)) && (gl sc x && (notStar ea && (notStar eb && (ok n .v sc a ea && (ok n .v sc b eb && (shallow a || quiet mus b))))))))
    | .slc a lo hi, .Subscript ea (.Slice lo' hi' none _) _ => ok n .v sc a ea && (okPo (ok n .v sc) lo lo' && (okPo (ok n .v sc) hi hi' && (shallow a || (quiets mus lo && quiets mus hi))))
    | .idx a i, .Subscript ea ei _ => ok n .v sc a ea && (ok n .v sc i ei && ((shallow a || quiet mus i) && notSlice ei))
    | .bi b as, .Call (.Name x _) (ea :: es) [] _ => decide (x = biN b) && (gl sc x && okAs mus (ok n .v sc) as (ea :: es))
    | .call g as, .Call (.Name x _) es [] _ => match T g with
      | some ft => decide (x = ft.name) && (gl sc x && (okAs mus (ok n .v sc) as es && (decide (as.length = ft.np) && (mus g).all fun m => decide (m < as.length))))
      | none => false
    | .kcall g as ix, .Call (.Name x _) [] kws _ => match T g with
      | some ft => decide (x = ft.name) && (gl sc x && (okKs mus (ok n .v sc) as kws && (decide (ix.length = ft.np) && (((mus g).all fun m => decide (m < ix.length)) && (decide ((kws.filterMap (·.arg), ix) ∈ ft.kws) && decide (as.length = (kws.filterMap (·.arg)).length))))))
      | none => false
    | .comp t s cs x own, .ListComp elt [⟨tg, iter, ifs, z⟩] scope _ => decide (z = 0) && (blkB N sc scope (own.map fun i => (N.getD i "", i)) && ((tgVars t).all (fun j => decide (j ∈ own)) && (okG N n scope (rel sc scope) t tg && (okCs (ok n .t (rel sc scope)) cs ifs && (ok n .v (rel sc scope) x elt && (notSet iter && okI mus (ok n .v sc) sc s tg iter))))))
    | .meth m a as, .Call (.Attribute ea name apos) es [] cpos => m.live && (decide (name = mtN m) && (recv ea && (ok n .v sc a ea && (okAs mus (ok n .v sc) as es && ((shallow a || quiets mus as) && (decide (apos.endLine = cpos.line) && decide (es.length ≤ 5)))))))
    | _, _ => false
  | n + 1, .t, sc, m, e => match m, e with
    | .cmp o a b, .Compare ea [op] [eb] _ => decide (op = cop o) && (ok n .v sc a ea && (ok n .v sc b eb && ((shallow a || quiet mus b) && notSet eb)))
    | .cmp2 o o' a b d, .Compare ea [op, op'] [eb, ed] _ => decide (op = cop o) && (decide (op' = cop o') && (ok n .v sc a ea && (ok n .v sc b eb && (ok n .v sc d ed && ((shallow a || quiet mus b) && ((shallow b || quiet mus d) && notSet ed))))))
    | .not a, .UnaryOp op ea _ => decide (op = .Not) && ok n .t sc a ea
    | m, .BoolOp op es pos => ok n .w sc m (.BoolOp op es pos)
    | m, e => plainT e && ok n .v sc m e
  | n + 1, .w, sc, m, e => match m, e with
    | m, .BoolOp _ [ea] _ => ok n .t sc m ea
    | .and a b, .BoolOp op (ea :: eb :: rest) pos => decide (op = .And) && (ok n .t sc a ea && ok n .w sc b (.BoolOp .And (eb :: rest) pos))
    | .or a b, .BoolOp op (ea :: eb :: rest) pos => decide (op = .Or) && (ok n .t sc a ea && ok n .w sc b (.BoolOp .Or (eb :: rest) pos))
    | _, _ => false
end
/-- what is known of a def, but for the scope -/
structure Fn0 (X : Cx) (XR : XRel) (c : CallF) (mu : Option Nat) (ft : FnT) (g k : Nat) (fa : Addr) (fd : FuncData) (ps : List Str) : Prop where
  G : FnG X.prog X.w X.K X.mg X.base (L2.CX X.prog X.w) k fa fd ps (Prom X.K XR c mu ft.np g)
  mg : X.mg ft.name = some (.ref fa)
  kp : PySem.W.keepIn X.K (.ref fa) = true
  bd : Binds X.K fd ps []
  ln : ps.length = ft.np
  db : (ft.name == ("__debug__" : Str)) = false
  kw : ∀ p ∈ ft.kws, KwB X.K fd ps p.1 p.2
/-- what is known where a text is -/
structure CxOk (T : Nat → Option FnT) (mus : Nat → Option Nat) (N : List Str) (c : CallF) (XR : XRel) (k : Nat) (cs sc : Scope) (W : WX) (X : Cx) : Prop where
  calm : X.calm = true
  hN : X.N = N
  nd : N.Nodup
  hsc : X.env.scope = sc
  kind : sc.kind = .function
  gu : X.A.guards = some []
  un : X.A.units + 70 < cLine
  room : Room k X.A
  tk : Takes X W
  bl : ∀ b ∈ bnames, X.mg b = none
  fnx : ∀ x, cs.names.lookup x = some .cell → X.fn x = true
  fns : ∀ g ft, T g = some ft → ∃ fa fd ps, Fn0 X XR c (mus g) ft g k fa fd ps
section
variable {T : Nat → Option FnT} {mus : Nat → Option Nat} {N : List Str} {c : CallF} {XR : XRel} {W : WX} {X : Cx} {k : Nat} {cs sc scope : Scope}
theorem CxOk.gl (C : CxOk T mus N c XR k cs sc W X) {x : Str} (h : gl sc x = true) : Gl X x := by
  unfold HW.gl at h
  show X.env.scope.names.lookup x = _
  rw [C.hsc]
  exact of_decide_eq_true h
theorem CxOk.blk (C : CxOk T mus N c XR k cs sc W X) (hk : scope.kind = .function) (s : Shared) (H : Hp) (env : PySem.Env) (he : env.scope = rel sc scope) (fp : List Addr) : CxOk T mus N c XR k scope (rel sc scope) WF (X.blk s H scope env fp) where
  calm := C.calm
  hN := C.hN
  nd := C.nd
  hsc := he
  kind := hk
  gu := C.gu
  un := C.un
  room := C.room
  tk := fun u s' ⟨_, _, _, _, _, _, _, _, _, _, _, _, _, _, _, _, w⟩ => w.elim
  bl := C.bl
  fnx := fun x h => by
    show (scope.names.lookup x == some .cell) = true
    rw [h]; rfl
  fns := fun g ft h => by
    obtain ⟨fa, fd, ps, f⟩ := C.fns g ft h
    exact ⟨fa, fd, ps, ⟨f.G, f.mg, f.kp, f.bd, f.ln, f.db, f.kw⟩⟩
theorem star_cons {e : Expr} (h : notStar e = true) (es : List Expr) (env : PySem.Env) : starEach (e :: es) env = (false, eval e env) :: starEach es env := by
  cases e <;> first | rfl | cases h
theorem okAs_star {f : E → Expr → Bool} {pos : Pos} {env : PySem.Env} : ∀ {as : List E} {es : List Expr}, okAs mus f as es = true → (backTo pos (starEach es env)).any (·.1) = false ∧ (backTo pos (starEach es env)).all (fun x => !x.1) = true
  | [], [], _ => ⟨rfl, rfl⟩
  | a :: as, e :: es, h => by
    simp only [okAs, Bool.and_eq_true] at h
    obtain ⟨i1, i2⟩ := okAs_star (pos := pos) (env := env) h.2.2.2
    rw [star_cons h.2.2.1]
    constructor
    · show (false || (backTo pos (starEach es env)).any (·.1)) = false
      rw [i1]; rfl
    · show (true && (backTo pos (starEach es env)).all (fun x => !x.1)) = true
      rw [i2]; rfl
  | [], _ :: _, h => by cases h
  | _ :: _, [], h => by cases h
theorem okAs_len {f : E → Expr → Bool} : ∀ {as : List E} {es : List Expr}, okAs mus f as es = true → as.length = es.length
  | [], [], _ => rfl
  | a :: as, e :: es, h => by
    simp only [okAs, Bool.and_eq_true] at h
    simp [okAs_len h.2.2.2]
  | [], _ :: _, h => by cases h
  | _ :: _, [], h => by cases h
theorem sa_of {f : E → Expr → Bool} (hf : ∀ a e, f a e = true → SE mus c XR W X a e) : ∀ {as : List E} {es : List Expr}, okAs mus f as es = true → SA mus c XR W X as es
  | [], [], _ => sa_nil
  | a :: as, e :: es, h => by
    simp only [okAs, Bool.and_eq_true, Bool.or_eq_true] at h
    exact sa_cons (hf a e h.1) (sa_of hf h.2.2.2) h.2.1 (star_cons h.2.2.1 es X.env)
  | [], _ :: _, h => by cases h
  | _ :: _, [], h => by cases h
theorem sv_of {f : E → Expr → Bool} (hf : ∀ a e, f a e = true → SE mus c XR W X a e) : ∀ {as : List E} {es : List Expr}, okVs f as es = true → SV mus c XR W X as es
  | [], [], _ => sv_nil
  | a :: as, e :: es, h => by
    simp only [okVs, Bool.and_eq_true] at h
    exact sv_cons (hf a e h.1) (sv_of hf h.2.2) (star_cons h.2.1 es X.env)
  | [], _ :: _, h => by cases h
  | _ :: _, [], h => by cases h
theorem sk_of {f : E → Expr → Bool} (hf : ∀ a e, f a e = true → SE mus c XR W X a e) {pos : Pos} {env : PySem.Env} : ∀ {as : List E} {ks : List Keyword}, okKs mus f as ks = true → SK mus c XR W X as ks ∧ (backToKw pos (keywordEach ks env)).all (·.1.isSome) = true ∧ (backToKw pos (keywordEach ks env)).filterMap (·.1) = ks.filterMap (·.arg) ∧ (backToKw pos (keywordEach ks env)).any (·.1.isNone) = false
  | [], [], _ => ⟨sk_nil, rfl, rfl, rfl⟩
  | a :: as, ⟨some nm, e, p⟩ :: ks, h => by
    simp only [okKs, Bool.and_eq_true, Bool.or_eq_true] at h
    obtain ⟨i1, i2, i3, i4⟩ := sk_of hf (pos := pos) (env := env) h.2.2
    refine ⟨sk_cons (hf a e h.1) i1 h.2.1, ?_, ?_, ?_⟩
    · show (true && (backToKw pos (keywordEach ks env)).all (·.1.isSome)) = true
      rw [i2]; rfl
    · show nm :: (backToKw pos (keywordEach ks env)).filterMap (·.1) = nm :: ks.filterMap (·.arg)
      rw [i3]
    · show (false || (backToKw pos (keywordEach ks env)).any (·.1.isNone)) = false
      rw [i4]; rfl
  | a :: as, ⟨none, e, p⟩ :: ks, h => by cases h
  | [], _ :: _, h => by cases h
  | _ :: _, [], h => by cases h
theorem assign_cons {e : Expr} (h : notStar e = true) (es : List Expr) (env : PySem.Env) : assignEach (e :: es) env = (false, assign e env) :: assignEach es env := by
  cases e <;> first | rfl | cases h
theorem sg_of (C : CxOk T mus N c XR k cs sc W X) : ∀ {n : Nat} {t : Tg} {e : Expr}, okG N n cs sc t e = true → SG X t e
  | 0, _, _, h => by cases h
  | n + 1, .var i, e, h => by
    cases e with
    | Name x p =>
      have h : (decide (N[i]? = some x) && (decide (sc.names.lookup x = some .local) || (decide (sc.names.lookup x = some .cell) && decide (cs.names.lookup x = some .cell)))) = true := h
      simp only [Bool.and_eq_true, Bool.or_eq_true, decide_eq_true_eq] at h
      obtain ⟨h1, h2⟩ := h
      refine sg_var (by rw [C.hN]; exact C.nd) (by rw [C.hN]; exact h1) (by unfold L2.Loc; rw [C.hsc]; exact h2.imp id And.left) ?_
      rw [C.hsc]
      rcases h2 with z | z
      · exact .inr z
      · exact .inl (C.fnx x z.2)
    | _ => cases h
  | n + 1, .tup ts, e, h => by
    cases e with
    | Tuple es k' p =>
      have h : okG.go (okG N n cs sc) ts es = true := h
      have key : ∀ (ts : List Tg) (es : List Expr), okG.go (okG N n cs sc) ts es = true → SGs X ts es ∧ (assignEach es X.env).length = ts.length ∧ (assignEach es X.env).findIdx? (·.1) = none := by
        intro ts
        induction ts with
        | nil =>
          intro es h
          cases es with
          | nil => exact ⟨sgs_nil, rfl, rfl⟩
          | cons _ _ => cases h
        | cons t ts ih =>
          intro es h
          cases es with
          | nil => cases h
          | cons e es =>
            simp only [okG.go, Bool.and_eq_true] at h
            obtain ⟨i1, i2, i3⟩ := ih es h.2.2
            have ac := assign_cons h.2.1 es X.env
            refine ⟨sgs_cons (sg_of C h.1) i1 (by rw [ac]; rfl), by rw [ac]; simp [i2], ?_⟩
            rw [ac, List.findIdx?_cons]
            simp [i3]
      obtain ⟨i1, i2, i3⟩ := key ts es h
      exact sg_tup C.calm i1 i2 rfl i3
    | _ => cases h
theorem okAs_two {f : E → Expr → Bool} {as : List E} {ea eb : Expr} (h : okAs mus f as [ea, eb] = true) : notStar ea = true ∧ notStar eb = true := by
  have hl := okAs_len h
  match as, hl, h with
  | [a, b], _, h =>
    simp only [okAs, Bool.and_eq_true] at h
    exact ⟨h.2.2.1, h.2.2.2.2.2.1⟩
theorem si_ok (C : CxOk T mus N c XR k cs sc W X) {f : E → Expr → Bool} (hf : ∀ a e, f a e = true → SE mus c XR W X a e) {s : It} {tg e : Expr} (h : okI mus f sc s tg e = true) : SI mus c XR W X s tg e := by
  unfold okI at h
  split at h
  · rw [Bool.and_eq_true] at h
    exact si_of (hf _ _ h.2)
  · simp only [Bool.and_eq_true, decide_eq_true_eq] at h
    obtain ⟨rfl, h1, h2⟩ := h
    have h3 := h2
    simp only [okAs, Bool.and_eq_true] at h3
    exact si_rng1 (C.gl h1) (C.bl _ (by decide)) (sa_of hf h2) (star_cons h3.2.2.1 _ _)
  · simp only [Bool.and_eq_true, decide_eq_true_eq] at h
    obtain ⟨rfl, h1, h2⟩ := h
    have h3 := h2
    simp only [okAs, Bool.and_eq_true] at h3
    exact si_rng2 (C.gl h1) (C.bl _ (by decide)) (sa_of hf h2) (by rw [star_cons h3.2.2.1, star_cons h3.2.2.2.2.2.1]; rfl) (star_cons h3.2.2.2.2.2.1 _ _)
  · simp only [Bool.and_eq_true, decide_eq_true_eq] at h
    obtain ⟨rfl, h1, h2⟩ := h
    have h3 := h2
    simp only [okAs, Bool.and_eq_true] at h3
    refine si_rng3 (C.gl h1) (C.bl _ (by decide)) (sa_of hf h2) (star_cons h3.2.2.1 _ _) ?_
    rw [star_cons h3.2.2.2.2.2.1, star_cons h3.2.2.2.2.2.2.2.2.1]; rfl
  · simp only [Bool.and_eq_true, decide_eq_true_eq] at h
    obtain ⟨rfl, h1, h2, h3, h4⟩ := h
    unfold isTup at h2
    split at h2
    · exact si_enm (C.gl h1) (C.bl _ (by decide)) (hf _ _ h4) (star_cons h3 _ _)
    · cases h2
  · simp only [Bool.and_eq_true, decide_eq_true_eq] at h
    obtain ⟨rfl, h1, h2, h3⟩ := h
    unfold isTup at h2
    split at h2
    · obtain ⟨s1, s2⟩ := okAs_two h3
      refine si_zip (C.gl h1) (C.bl _ (by decide)) (sa_of hf h3) (star_cons s1 _ _) ?_
      rw [star_cons s2]; rfl
    · cases h2
  · simp only [Bool.and_eq_true, decide_eq_true_eq] at h
    obtain ⟨rfl, h1, h2, h3⟩ := h
    exact si_rvs (C.gl h1) (C.bl _ (by decide)) (hf _ _ h3) (star_cons h2 _ _)
  · cases h
end
end HW
end

section
set_option Elab.async false
set_option linter.all false
set_option maxRecDepth 100000
set_option maxHeartbeats 4000000
/-! # The check's soundness: expressions -/
namespace HW
open PySem PySem.Spec PyProof.Rows L2
theorem bi_boot (b : Bi) : bootBuiltins (biN b) = some (biV b) := by cases b <;> decide +kernel
theorem bi_mem (b : Bi) : biN b ∈ bnames := by cases b <;> decide +kernel
theorem bi_dbg (b : Bi) : biN b ≠ ("__name__" : Str) ∧ (biN b == ("__debug__" : Str)) = false := by cases b <;> decide +kernel
theorem mt_slot {m : Mt} (h : m.live = true) : Slot "list" (mtN m) (mtId m) ∧ typeOf (.builtin (mtId m)) = pure (.type "method_descriptor") := by
  cases m with
  | append => exact ⟨PySem.F.slot_list_append, PySem.F.type_list_append⟩
  | pop => exact ⟨PySem.F.slot_list_pop, PySem.F.type_list_pop⟩
  | popAt => exact ⟨PySem.F.slot_list_pop, PySem.F.type_list_pop⟩
  | insert => exact ⟨PySem.F.slot_list_insert, PySem.F.type_list_insert⟩
  | extend => cases h
  | remove => cases h
theorem recv_base {e : Expr} {name : Str} {env : PySem.Env} (h : recv e = true) : attributeBase e name env (eval e env) = eval e env := by
  cases e <;> first | rfl | cases h
theorem set_plain {e : Expr} {env : PySem.Env} (h : notSet e = true) : ∀ x, foldedSetIterable e env x = pure x := by
  intro x
  cases e <;> first | rfl | cases h
theorem slice_plain {e : Expr} (h : notSlice e = true) : PlainIx e := by
  intro o i
  cases e <;> first | rfl | cases h
theorem plain_true {e : Expr} {env : PySem.Env} (h : plainT e = true) : ∀ whole, isTrue e env whole = (do let v ← whole; standAt e.pos; holding [v] (truthy v)) := by
  intro whole
  cases e <;> first | rfl | cases h
theorem set_marks {o : CmpOp} {e : Expr} (h : notSet e = true) : behindInMarks o e = false := by
  cases e <;> first | rfl | cases h
section
variable {T : Nat → Option FnT} {mus : Nat → Option Nat} {N : List Str} {c : CallF} {XR : XRel} {W : WX} {X : Cx} {k : Nat} {cs sc scope : Scope}
theorem lit_of {d : PyData} {e : Expr} (h : okLit d e = true) : SE mus c XR W X (.lit d) e := by
  unfold okLit at h
  split at h
  · rw [of_decide_eq_true h]; exact se_int
  · rw [of_decide_eq_true h]; exact se_bool
  · exact se_none
  · rw [of_decide_eq_true h]; exact se_str
  · cases h
theorem po_of {f : E → Expr → Bool} (hf : ∀ a e, f a e = true → SE mus c XR W X a e) {ms : List E} {o : Option Expr} (h : okPo f ms o = true) : SPo mus c XR W X ms o := by
  unfold okPo at h
  split at h
  · exact spo_none
  · exact spo_some (hf _ _ h)
  · cases h
theorem cs_of {f : E → Expr → Bool} (hf : ∀ a e, f a e = true → ST mus c XR W X a e) {ms : List E} {es : List Expr} (h : okCs f ms es = true) : STs mus c XR W X ms es := by
  unfold okCs at h
  split at h
  · exact sts_nil
  · exact sts_one (hf _ _ h)
  · cases h
theorem bi_of (C : CxOk T mus N c XR k cs sc W X) {b : Bi} {as : List E} {ea : Expr} {es : List Expr} {p pos : Pos} {f : E → Expr → Bool} (hf : ∀ a e, f a e = true → SE mus c XR W X a e) (hg : gl sc (biN b) = true) (h : okAs mus f as (ea :: es) = true) :
    SE mus c XR W X (.bi b as) (.Call (.Name (biN b) p) (ea :: es) [] pos) := by
  have hs : notStar ea = true := by
    cases as with
    | nil => cases h
    | cons a as => simp only [okAs, Bool.and_eq_true] at h; exact h.2.2.1
  have sc1 := star_cons hs es X.env
  have hpl : (backTo pos (starEach es X.env)).any (·.1) = false := by
    have := (okAs_star (pos := pos) (env := X.env) h).1
    rw [sc1] at this
    exact (Bool.or_eq_false_iff.mp this).2
  have g := C.gl hg
  have m := C.bl _ (bi_mem b)
  have v := bi_boot b
  obtain ⟨n1, n2⟩ := bi_dbg b
  have sa := sa_of hf h
  have hu := C.un
  cases hb : biV b with
  | builtin id => exact se_biB hb C.calm C.gu hu g m (by rw [v, hb]) sa n1 n2 sc1 hpl
  | type id => exact se_biT hb C.calm C.gu hu g m (by rw [v, hb]) sa n1 n2 sc1 hpl
  | _ => cases b <;> cases hb
theorem call_of (C : CxOk T mus N c XR k cs sc W X) {g : Nat} {ft : FnT} {as : List E} {es : List Expr} {p pos : Pos} {f : E → Expr → Bool} (hT : T g = some ft) (hf : ∀ a e, f a e = true → SE mus c XR W X a e) (hg : gl sc ft.name = true) (h : okAs mus f as es = true) (hl : as.length = ft.np) (hm : (mus g).all (fun m => decide (m < as.length)) = true) :
    SE mus c XR W X (.call g as) (.Call (.Name ft.name p) es [] pos) := by
  obtain ⟨fa, fd, ps, F⟩ := C.fns g ft hT
  have gl := C.gl hg
  have hm' : ∀ m, mus g = some m → m < as.length := fun m e => by rw [e] at hm; simpa using hm
  have fi : FnIn X XR c (mus g) ft.np g ft.name k fa fd ps := ⟨F.G, gl, F.mg, F.kp, F.bd, F.ln, F.db⟩
  cases es with
  | nil =>
    have hz : as = [] := by
      cases as with
      | nil => rfl
      | cons _ _ => cases h
    subst hz
    rw [← hl] at fi
    refine se_call0 C.gu C.room C.tk fi ?_
    cases z : mus g with
    | none => rfl
    | some m => exact absurd (hm' m z) (by simp)
  | cons ea es =>
    have hs : notStar ea = true := by
      cases as with
      | nil => cases h
      | cons a as => simp only [okAs, Bool.and_eq_true] at h; exact h.2.2.1
    have sc1 := star_cons hs es X.env
    have hpl : (backTo pos (starEach es X.env)).any (·.1) = false := by
      have := (okAs_star (pos := pos) (env := X.env) h).1
      rw [sc1] at this
      exact (Bool.or_eq_false_iff.mp this).2
    exact se_call C.gu C.room C.tk fi (sa_of hf h) hm' hl sc1 hpl
theorem kcall_of (C : CxOk T mus N c XR k cs sc W X) {g : Nat} {ft : FnT} {as : List E} {kws : List Keyword} {ix : List Nat} {p pos : Pos} {f : E → Expr → Bool} (hT : T g = some ft) (hf : ∀ a e, f a e = true → SE mus c XR W X a e) (hg : gl sc ft.name = true) (h : okKs mus f as kws = true) (hl : ix.length = ft.np) (hm : (mus g).all (fun m => decide (m < ix.length)) = true)
    (hk : (kws.filterMap (·.arg), ix) ∈ ft.kws) (ha : as.length = (kws.filterMap (·.arg)).length) : SE mus c XR W X (.kcall g as ix) (.Call (.Name ft.name p) [] kws pos) := by
  obtain ⟨fa, fd, ps, F⟩ := C.fns g ft hT
  have gl := C.gl hg
  have hm' : ∀ m, mus g = some m → m < ix.length := fun m e => by rw [e] at hm; simpa using hm
  obtain ⟨i1, i2, i3, i4⟩ := sk_of hf (pos := pos) (env := X.env) h
  refine se_kcall C.gu C.room C.tk ⟨F.G, gl, F.mg, F.kp, F.bd, F.ln, F.db⟩ (F.kw _ hk) i1 hm' hl ha i2 i3 ?_
  rw [i4]; rfl
theorem meth_of {m : Mt} {a : E} {as : List E} {ea : Expr} {es : List Expr} {apos cpos : Pos} {f : E → Expr → Bool} (hf : ∀ a e, f a e = true → SE mus c XR W X a e) (hl : m.live = true) (hr : recv ea = true) (ha : f a ea = true) (h : okAs mus f as es = true) (hd : shallow a = true ∨ quiets mus as = true) (hp : apos.endLine = cpos.line) (h5 : es.length ≤ 5) :
    SE mus c XR W X (.meth m a as) (.Call (.Attribute ea (mtN m) apos) es [] cpos) := by
  obtain ⟨s1, s2⟩ := mt_slot hl
  have hline : (apos.endLine == cpos.line) = true := by rw [hp]; exact beq_self_eq_true _
  cases es with
  | nil =>
    have hz : as = [] := by
      cases as with
      | nil => rfl
      | cons _ _ => cases h
    subst hz
    exact se_meth0 hl s1 s2 (hf _ _ ha) (recv_base hr) hline
  | cons eb es =>
    have hs : notStar eb = true := by
      cases as with
      | nil => cases h
      | cons a as => simp only [okAs, Bool.and_eq_true] at h; exact h.2.2.1
    have sc1 := star_cons hs es X.env
    have st := okAs_star (pos := cpos) (env := X.env) h
    have hpl : (backTo cpos (starEach es X.env)).any (·.1) = false := by
      have := st.1
      rw [sc1] at this
      exact (Bool.or_eq_false_iff.mp this).2
    refine se_meth hl s1 s2 (hf _ _ ha) (sa_of hf h) hd (recv_base hr) ?_ hline sc1 hpl
    rw [st.2]
    have : (eb :: es).length < 30 := by omega
    simp [keywordEach, backToKw]
    simp at this
    omega
theorem bool_two (op : PySem.BoolOp) : op = .And ∨ op = .Or := by cases op <;> simp
theorem comp_of (C : CxOk T mus N c XR k cs sc W X) {n : Nat} {t : Tg} {s : It} {cs : List E} {x : E} {own : List Nat} {elt tg iter : Expr} {ifs : List Expr} {scope : Scope} {pos : Pos} (hb : blkB N sc scope (own.map fun i => (N.getD i "", i)) = true) (sub : ∀ j ∈ tgVars t, j ∈ own) (hg : okG N n scope (rel sc scope) t tg = true)
    (ht : ∀ X', CxOk T mus N c XR k scope (rel sc scope) WF X' → STs mus c XR WF X' cs ifs) (he : ∀ X', CxOk T mus N c XR k scope (rel sc scope) WF X' → SE mus c XR WF X' x elt) (hs : notSet iter = true) (hi : SI mus c XR W X s tg iter) : SE mus c XR W X (.comp t s cs x own) (.ListComp elt [⟨tg, iter, ifs, 0⟩] scope pos) := by
  have bo := blk_ok hb
  have e1 : (own.map fun i => (N.getD i ("" : Str), i)).map (·.2) = own := by
    rw [List.map_map]; exact List.map_id' own
  have CB := fun (s : Shared) (H : Hp) (C' : Addr) (cl : List (Str × Addr)) (fp : List Addr) => C.blk (scope := scope) bo.kind s H (compEnvC scope cl C' X.env) (rel_eq C.hsc) fp
  have key := se_comp (W := W) (own := own.map fun i => (N.getD i ("" : Str), i)) (pos := pos) (scope := scope) (mus := mus) (c := c) (XR := XR) C.calm (by rw [C.hN]; exact C.nd) hi (by rw [C.hN, C.hsc]; exact bo) (by rw [e1]; exact sub)
    (fun s H C' cl fp => sg_of (CB s H C' cl fp) hg) (fun s H C' cl fp => ht _ (CB s H C' cl fp)) (fun s H C' cl fp => he _ (CB s H C' cl fp)) (set_plain hs)
  rw [e1] at key
  exact key
theorem ok_sound : ∀ (n : Nat) (md : Md) (cs sc : Scope) (m : E) (e : Expr) (X : Cx) (W : WX), CxOk T mus N c XR k cs sc W X → ok T mus N n md sc m e = true → match md with | .v => SE mus c XR W X m e | .t => ST mus c XR W X m e | .w => SW mus c XR W X m e := by
  intro n
  induction n with
  | zero => intro md cs sc m e X W C h; cases md <;> cases h
  | succ n ih =>
    intro md cs sc m e X W C h
    have iv : ∀ a e, ok T mus N n .v sc a e = true → SE mus c XR W X a e := fun a e h => ih .v cs sc a e X W C h
    have it : ∀ a e, ok T mus N n .t sc a e = true → ST mus c XR W X a e := fun a e h => ih .t cs sc a e X W C h
    have iw : ∀ a e, ok T mus N n .w sc a e = true → SW mus c XR W X a e := fun a e h => ih .w cs sc a e X W C h
    have hu65 : X.A.units + 65 < cLine := by have := C.un; omega
    have hu1 : X.A.units + 1 < cLine := by have := C.un; omega
    cases md with
    | v =>
      show SE mus c XR W X m e
      unfold ok at h
      split at h
      · simp only [Bool.and_eq_true, decide_eq_true_eq, Bool.not_eq_true'] at h
        obtain ⟨h1, h2, h3⟩ := h
        unfold dbg at h3
        unfold vis at h2
        simp only [Bool.or_eq_true, decide_eq_true_eq] at h2
        rw [Bool.or_eq_false_iff] at h3
        exact se_var (by rw [C.hN]; exact h1) (by unfold Vis; rw [C.hsc]; exact h2) h3.1 h3.2
      · exact lit_of h
      · simp only [Bool.and_eq_true, Bool.or_eq_true, decide_eq_true_eq] at h
        obtain ⟨rfl, h1, h2, h3⟩ := h
        exact se_bin _ (iv _ _ h1) (iv _ _ h2) h3
      · simp only [Bool.and_eq_true, decide_eq_true_eq] at h
        obtain ⟨rfl, h1⟩ := h
        exact se_neg (iv _ _ h1)
      · simp only [Bool.and_eq_true, decide_eq_true_eq] at h
        obtain ⟨rfl, h1⟩ := h
        exact se_not (iv _ _ h1)
      · simp only [Bool.and_eq_true, Bool.or_eq_true, decide_eq_true_eq] at h
        obtain ⟨rfl, h1, h2, h3, h4⟩ := h
        exact se_cmp _ hu65 (iv _ _ h1) (iv _ _ h2) h3 (set_marks h4)
      · simp only [Bool.and_eq_true, Bool.or_eq_true, decide_eq_true_eq] at h
        obtain ⟨rfl, rfl, h1, h2, h3, h4, h5, h6⟩ := h
        exact (sc_cmp2 _ _ hu65 (iv _ _ h1) (iv _ _ h2) (iv _ _ h3) h4 h5 (set_marks h6)).se
      · exact se_one (iv _ _ h)
      · simp only [Bool.and_eq_true, decide_eq_true_eq] at h
        obtain ⟨rfl, h1, h2⟩ := h
        exact se_and (iv _ _ h1) (iv _ _ h2)
      · simp only [Bool.and_eq_true, decide_eq_true_eq] at h
        obtain ⟨rfl, h1, h2⟩ := h
        exact se_or (iv _ _ h1) (iv _ _ h2)
      · simp only [Bool.and_eq_true] at h
        obtain ⟨h1, h2, h3⟩ := h
        exact se_ite (it _ _ h1) (iv _ _ h2) (iv _ _ h3)
      · exact se_tup (sa_of iv h)
      · exact se_lst (sv_of iv h)
      · simp only [Bool.and_eq_true, decide_eq_true_eq] at h
        obtain ⟨rfl, rfl, h1⟩ := h
        exact se_rev (iv _ _ h1)
      · simp only [Bool.and_eq_true, decide_eq_true_eq] at h
        obtain ⟨rfl, h1, rfl, h2, h3, h4⟩ := h
        exact se_lrg C.calm (C.gl h1) (C.bl _ (by decide)) (C.gl h2) (fun _ => C.bl _ (by decide)) (fun _ => C.bl _ (by decide)) (iv _ _ h4) (star_cons h3 _ _)
      · simp only [Bool.and_eq_true, Bool.or_eq_true, decide_eq_true_eq] at h
        obtain ⟨rfl, h1, rfl, h2, h3, h4, h5, h6, h7⟩ := h
        exact se_lrg2 C.calm (C.gl h1) (C.bl _ (by decide)) (C.gl h2) (fun _ => C.bl _ (by decide)) (fun _ => C.bl _ (by decide)) (iv _ _ h5) (iv _ _ h6) h7 (by rw [star_cons h3]) (star_cons h4 _ _)
      · simp only [Bool.and_eq_true, Bool.or_eq_true] at h
        obtain ⟨h1, h2, h3, h4⟩ := h
        exact se_slc (iv _ _ h1) (po_of iv h2) (po_of iv h3) (by simpa only [Bool.and_eq_true] using h4)
      · simp only [Bool.and_eq_true, Bool.or_eq_true] at h
        obtain ⟨h1, h2, h3, h4⟩ := h
        exact se_idx hu1 (iv _ _ h1) (iv _ _ h2) h3 (slice_plain h4)
      · simp only [Bool.and_eq_true, decide_eq_true_eq] at h
        obtain ⟨rfl, h1, h2⟩ := h
        exact bi_of C iv h1 h2
      · split at h
        · rename_i hT
          simp only [Bool.and_eq_true, decide_eq_true_eq] at h
          obtain ⟨rfl, h1, h2, h3, h4⟩ := h
          exact call_of C hT iv h1 h2 h3 h4
        · cases h
      · split at h
        · rename_i hT
          simp only [Bool.and_eq_true, decide_eq_true_eq] at h
          obtain ⟨rfl, h1, h2, h3, h4, h5, h6⟩ := h
          exact kcall_of C hT iv h1 h2 h3 h4 h5 h6
        · cases h
      · simp only [Bool.and_eq_true, decide_eq_true_eq, List.all_eq_true] at h
        obtain ⟨rfl, h1, h2, h3, h4, h5, h6, h7⟩ := h
        exact comp_of C h1 h2 h3 (fun X' C' => cs_of (fun a e hh => ih .t _ _ a e X' WF C' hh) h4) (fun X' C' => ih .v _ _ _ _ X' WF C' h5) h6 (si_ok C iv h7)
      · simp only [Bool.and_eq_true, Bool.or_eq_true, decide_eq_true_eq] at h
        obtain ⟨h1, rfl, h2, h3, h4, h5, h6, h7⟩ := h
        exact meth_of iv h1 h2 h3 h4 h5 h6 h7
      · cases h
    | t =>
      show ST mus c XR W X m e
      unfold ok at h
      split at h
      · simp only [Bool.and_eq_true, Bool.or_eq_true, decide_eq_true_eq] at h
        obtain ⟨rfl, h1, h2, h3, h4⟩ := h
        exact (sc_cmp _ hu65 (iv _ _ h1) (iv _ _ h2) h3 (set_marks h4)).st
      · simp only [Bool.and_eq_true, Bool.or_eq_true, decide_eq_true_eq] at h
        obtain ⟨rfl, rfl, h1, h2, h3, h4, h5, h6⟩ := h
        exact (sc_cmp2 _ _ hu65 (iv _ _ h1) (iv _ _ h2) (iv _ _ h3) h4 h5 (set_marks h6)).st
      · simp only [Bool.and_eq_true, decide_eq_true_eq] at h
        obtain ⟨rfl, h1⟩ := h
        exact st_not (it _ _ h1)
      · exact (iw _ _ h).st
      · rw [Bool.and_eq_true] at h
        exact st_val (iv _ _ h.2) (plain_true h.1)
    | w =>
      show SW mus c XR W X m e
      unfold ok at h
      split at h
      · exact sw_one (it _ _ h) (bool_two _)
      · simp only [Bool.and_eq_true, decide_eq_true_eq] at h
        obtain ⟨rfl, h1, h2⟩ := h
        exact sw_and (it _ _ h1) (iw _ _ h2)
      · simp only [Bool.and_eq_true, decide_eq_true_eq] at h
        obtain ⟨rfl, h1, h2⟩ := h
        exact sw_or (it _ _ h1) (iw _ _ h2)
      · cases h
end
end HW
end

section
set_option Elab.async false
set_option linter.all false
set_option maxRecDepth 100000
set_option maxHeartbeats 4000000
/-! # The check: statements -/
namespace HW
open PySem PySem.Spec PyProof.Rows L2
def notComp : Expr → Bool
  | .ListComp .. => false
  | .SetComp .. => false
  | .DictComp .. => false
  | _ => true
def swB (sc : Scope) (x : Str) (p p1 : Pos) (scope : Scope) : Bool := decide (sc.names.lookup x = some .local) && ((p.line == p1.line) && !(scope.names.any fun (n, k) => n == x && (k == .local || k == .cell)))
theorem sw_no {e : Expr} {o : Option Expr} {l : Nat} {env : PySem.Env} (h : notComp e = true) : swapsWith e o l env = pure false := by
  cases e <;> first | rfl | cases h
theorem sw_comp {elt : Expr} {gs : List Comprehension} {scope sc : Scope} {pos p : Pos} {x : Str} {l : Nat} {env : PySem.Env} (hk : sc.kind = .function) (he : env.scope = sc) : swapsWith (.ListComp elt gs scope pos) (some (.Name x p)) l env = pure (swB sc x p pos scope) := by
  have hb : env.blockKind = .function := by unfold Env.blockKind; rw [he, hk]; rfl
  have hn : env.kindOf x = sc.names.lookup x := by unfold Env.kindOf; rw [he]
  unfold swapsWith swB
  simp only [hb, hn, Expr.pos]
  congr 1
  by_cases c : sc.names.lookup x = some .local
  · rw [c]; simp
  · have : (sc.names.lookup x == some NameKind.local) = false := by simpa using c
    rw [this, decide_eq_false c]; simp
theorem stores_no {t e : Expr} {env : PySem.Env} (h : isTup e = false) : swappedStores [t] e env = pure none := by
  cases e <;> first | (cases t <;> rfl) | cases h
theorem assign_one {t : Expr} {env : PySem.Env} (h : notStar t = true) : (assignEach [t] env).map (·.2) = [assign t env] := by
  rw [assign_cons h]; rfl
theorem assign_sub {ea eb : Expr} {p : Pos} {env : PySem.Env} (h : notSlice eb = true) : ∀ v, assign (.Subscript ea eb p) env v = (do
      let ov ← holding [v] (eval ea env)
      let iv ← holding [v, ov] (eval eb env)
      standAt p
      holding [v, ov, iv] (setItem ov iv v)
      release [v, ov, iv] []) := by
  intro v
  cases eb <;> first | rfl | exact absurd h Bool.false_ne_true
theorem stores_sub {ea eb e : Expr} {p : Pos} {env : PySem.Env} : swappedStores [.Subscript ea eb p] e env = pure none := by cases e <;> rfl
theorem sw2 {env : PySem.Env} {sc : Scope} {x y : Str} {px py pt pt2 : Pos} {kt k2 : Nat} {ea eb : Expr} (hk : sc.kind = .function) (he : env.scope = sc) (hx : sc.names.lookup x = some .local) (hy : sc.names.lookup y = some .local) (hxy : x ≠ y) (hl : py.line = px.line) (sa : notStar ea = true) (sb : notStar eb = true)
    (hf : (foldedForSure 8 ea && foldedForSure 8 eb) = false) (hc : (constantsAlone 8 ea && constantsAlone 8 eb) = false) : swappedStores [.Tuple [.Name x px, .Name y py] kt pt] (.Tuple [ea, eb] k2 pt2) env = pure (some [x, y]) := by
  have hb : env.blockKind = .function := by unfold Env.blockKind; rw [he, hk]; rfl
  have nx : env.kindOf x = some .local := by unfold Env.kindOf; rw [he]; exact hx
  have ny : env.kindOf y = some .local := by unfold Env.kindOf; rw [he]; exact hy
  have st : ([ea, eb].any fun | .Starred .. => true | _ => false) = false := by
    cases ea <;> first | exact absurd sa Bool.false_ne_true | (cases eb <;> first | exact absurd sb Bool.false_ne_true | rfl)
  have nm : ([Expr.Name x px, Expr.Name y py].filterMap fun
    | .Name id pos => if env.kindOf id == some .local && pos.line == (([Expr.Name x px, Expr.Name y py].head?.map (·.pos.line)).getD 0) then some id else none
    | _ => none) = [x, y] := by
    simp [nx, ny, hl, Expr.pos]
  have yx : (y == x) = false := beq_eq_false_iff_ne.mpr (Ne.symm hxy)
  have dd : [x, y].eraseDups = [x, y] := by simp [List.eraseDups, List.eraseDupsBy, List.eraseDupsBy.loop, yx]
  unfold swappedStores
  simp only [hb, st, nm, dd]
  simp [hf, hc]
  rw [if_neg]
  · simp [List.filterMap_cons, nx, ny, hl, Expr.pos, List.eraseDups, List.eraseDupsBy, List.eraseDupsBy.loop, yx]
  · intro z
    rcases z with z | z
    · cases ea <;> first | exact absurd sa Bool.false_ne_true | exact absurd z Bool.false_ne_true
    · cases eb <;> first | exact absurd sb Bool.false_ne_true | exact absurd z Bool.false_ne_true
/-- a written tuple to names, from the left -/
def gNames : List Nat → TGs
  | [] => gNil
  | i :: is => gCons (gName i) (gNames is)
theorem gNames_of : ∀ {is : List Nat} {xs : List V} {σ : L2.St} {H : Hp} {Q : L2.St → Hp → Prop}, is.length = xs.length → Q (setAllS is xs σ) H → gNames is xs σ H Q
  | [], [], σ, H, Q, _, q => ⟨rfl, q⟩
  | [], _ :: _, _, _, _, h, _ => by simp at h
  | _ :: _, [], _, _, _, h, _ => by simp at h
  | i :: is, x :: xs, σ, H, Q, h, q => ⟨x, xs, rfl, gNames_of (by simpa using h) q⟩
section
variable {T : Nat → Option FnT} {mus : Nat → Option Nat} {N : List Str} {c : CallF} {XR : XRel} {W : WX} {X : Cx} {k : Nat} {cs sc scope : Scope} {pr : Option Nat}
def okNames (N : List Str) (cs sc : Scope) : List Nat → List Expr → Bool
  | [], [] => true
  | i :: is, .Name x _ :: es => decide (N[i]? = some x) && ((decide (sc.names.lookup x = some .local) || (decide (sc.names.lookup x = some .cell) && decide (cs.names.lookup x = some .cell))) && okNames N cs sc is es)
  | _, _ => false
theorem pgs_names (C : CxOk T mus N c XR k cs sc W X) : ∀ {is : List Nat} {es : List Expr}, okNames N cs sc is es = true → PGs X es (gNames is) ∧ (assignEach es X.env).length = is.length ∧ (assignEach es X.env).findIdx? (·.1) = none
  | [], [], _ => ⟨pgs_nil, rfl, rfl⟩
  | [], _ :: _, h => by cases h
  | _ :: _, [], h => by cases h
  | i :: is, e :: es, h => by
    cases e with
    | Name x p =>
      simp only [okNames, Bool.and_eq_true, Bool.or_eq_true, decide_eq_true_eq] at h
      obtain ⟨h1, h2, h3⟩ := h
      obtain ⟨i1, i2, i3⟩ := pgs_names C h3
      refine ⟨pgs_cons (pg_name (by rw [C.hN]; exact C.nd) (by rw [C.hN]; exact h1) (by unfold L2.Loc; rw [C.hsc]; exact h2.imp id And.left) ?_) i1 rfl, ?_, ?_⟩
      · rw [C.hsc]
        rcases h2 with z | z
        · exact .inr z
        · exact .inl (C.fnx x z.2)
      · show (assignEach es X.env).length + 1 = is.length + 1
        rw [i2]
      · show (((false, assign (.Name x p) X.env) :: assignEach es X.env).findIdx? (·.1)) = none
        rw [List.findIdx?_cons]
        simp [i3]
    | _ => cases h
theorem ss_parG (C : CxOk T mus N c XR k cs sc W X) {is : List Nat} {as : List E} {ns es : List Expr} {kt k2 : Nat} {pt pt2 pos : Pos} (hn : okNames N cs sc is ns = true) (ha : SV mus c XR W X as es) (hw : swappedStores [.Tuple ns kt pt] (.Tuple es k2 pt2) X.env = pure none) (hz : is.length ≤ 1000) (hp : ∀ i ∈ is, pr ≠ some i) :
    SS mus c XR W pr X (.par (is.map .var) as) (.Assign [.Tuple ns kt pt] (.Tuple es k2 pt2) pos) := by
  obtain ⟨ta, pa, mm⟩ := ha
  obtain ⟨i1, i2, i3⟩ := pgs_names C hn
  refine ⟨_, ps_asg (pe_tup pa) (pg_tup C.calm i1 i2 i3) rfl hw rfl, fun e σ F H S D r h => ?_⟩
  -- the interpreter's run, with the tuple itself between
  have h : Post (FlR X.K pr D σ H F S) (FlX X.K XR W H F S) (bnd (evo mus c as) (fun os => bnd (stores mus c (is.map .var) os) fun _ => ret .nx) e) := h
  refine mm.bind r h (fun x e' hx => hx.post) fun ws e1 xs H1 F1 S1 Sx r1 t1 s1 h1 => ?_
  rcases post_bnd h1 with ⟨u, e2, h2, h3⟩ | ⟨x, e2, h2, _⟩
  · obtain ⟨ln, S2, r2, s2⟩ := stores_vars (t1.rel r1) h2
    have s1 : Step (quiets mus as) H F (S ++ []) H1 F1 (S1 ++ Sx) := by
      have := s1
      rwa [List.append_nil Sx] at this
    refine ⟨?_, fun p np => ?_⟩
    · have : xs.length ≤ lim := by
        rw [← ln]; exact Nat.le_trans hz (by decide)
      rw [← lim_eq]; exact this
    · obtain ⟨r3, s3⟩ := r2.junk (o := .tup xs) np
      exact ⟨p, xs, rfl, .inl (.inl upd_same), ln.symm, gNames_of ln (h3 _ _ F1 S2 r3 (setAllS_same hp) (((s1.trans s2).trans s3).weak fun z => by cases z))⟩
  · exact (stores_exn h2).elim
end
end HW
end

section
set_option Elab.async false
set_option linter.all false
set_option maxRecDepth 100000
set_option maxHeartbeats 4000000
/-! # The check: statements, defs -/
namespace HW
open PySem PySem.Spec PyProof.Rows L2
section
variable (T : Nat → Option FnT) (mus : Nat → Option Nat) (N : List Str) (pr : Option Nat)
def ne (pr : Option Nat) (i : Nat) : Bool := !decide (pr = some i)
def varsOf : List Tt → Option (List Nat)
  | [] => some []
  | .var i :: ts => (varsOf ts).map fun is => i :: is
  | _ :: _ => none
def parOk (sc : Scope) (is : List Nat) (ns es : List Expr) : Bool := match is, ns, es with
  | [i, j], [.Name x px, .Name y py], [ea, eb] => decide (N[i]? = some x) && (decide (N[j]? = some y) && (!decide (i = j) && (decide (sc.names.lookup x = some .local) && (decide (sc.names.lookup y = some .local) && (!decide (x = y) && (decide (py.line = px.line) && (notStar ea && (notStar eb && (!(foldedForSure 8 ea && foldedForSure 8 eb) && !(constantsAlone 8 ea && constantsAlone 8 eb))))))))))
  | _, _, _ => false
/-- the names are not all locals: no exchange -/
def parNo (sc : Scope) (ns : List Expr) : Bool := ns.any fun
  | .Name x _ => !decide (sc.names.lookup x = some .local)
  | _ => false
mutual
def okS : Nat → Scope → S → Stmt → Bool
  | 0, _, _, _ => false
  | n + 1, sc, s, st => match s, st with
    | .expr a, .Expr e _ => notComp e && ok T mus N n .v sc a e
    | .set i (.comp t s cs x own), .Assign [.Name y p] (.ListComp elt [⟨tg, iter, ifs, z⟩] scope p1) _ => decide (N[i]? = some y) && (ne pr i && (if swB sc y p p1 scope then
        decide (z = 0) && (blkB N sc scope (own.map fun i => (N.getD i "", i)) && ((tgVars t).all (fun j => decide (j ∈ own)) && (okG N n scope (rel sc scope) t tg && (okCs (ok T mus N n .t (rel sc scope)) cs ifs && (ok T mus N n .v (rel sc scope) x elt && (notSet iter && okI mus (ok T mus N n .v sc) sc s tg iter))))))
      else loc sc y && ok T mus N n .v sc (.comp t s cs x own) (.ListComp elt [⟨tg, iter, ifs, z⟩] scope p1)))
    | .set i a, .Assign [.Name y _] e _ => decide (N[i]? = some y) && (ne pr i && (loc sc y && (notComp e && ok T mus N n .v sc a e)))
    | .unp t a, .Assign [tg] e _ => notStar tg && (!isTup e && (notComp e && (okG N n sc sc t tg && (ok T mus N n .v sc a e && (tgVars t).all (ne pr)))))
    | .par ts as, .Assign [.Tuple ns _ _] (.Tuple es _ _) _ => match varsOf ts with
      | some is => is.all (ne pr) && (okVs (ok T mus N n .v sc) as es && (parOk N sc is ns es || (okNames N sc sc is ns && (parNo sc ns && decide (is.length ≤ 1000)))))
      | none => false
    | .put a i d, .Assign [.Subscript ea ei _] e _ => notSlice ei && (notComp e && (ok T mus N n .v sc a ea && (ok T mus N n .v sc i ei && (ok T mus N n .v sc d e && (shallow a || quiet mus i)))))
    | .ite d a b, .If ec sa sb _ => ok T mus N n .t sc d ec && (okB n sc a sa && okB n sc b sb)
    | .whl d b, .While ec sb [] _ => ok T mus N n .t sc d ec && okB n sc b sb
    | .fr t s b, .For tg iter sb [] _ => okG N n sc sc t tg && (okI mus (ok T mus N n .v sc) sc s tg iter && (notSet iter && ((tgVars t).all (ne pr) && okB n sc b sb)))
    | .rt a, .Return (some e) _ => ok T mus N n .v sc a e
    | .rtN, .Return none _ => true
    | .pass, .Pass _ => true
    | .cont, .Continue _ => true
    | .brk, .Break _ => true
    | _, _ => false
def okB : Nat → Scope → List S → List Stmt → Bool
  | 0, _, _, _ => false
  | _ + 1, _, [], [] => true
  | n + 1, sc, s :: ss, st :: sts => okS n sc s st && okB n sc ss sts
  | _, _, _, _ => false
end
end
section
variable {T : Nat → Option FnT} {mus : Nat → Option Nat} {N : List Str} {c : CallF} {XR : XRel} {W : WX} {X : Cx} {k : Nat} {cs sc scope : Scope} {pr : Option Nat}
theorem ne_of {i : Nat} (h : ne pr i = true) : pr ≠ some i := by
  unfold ne at h
  simpa using h
theorem vars_of : ∀ {ts : List Tt} {is : List Nat}, varsOf ts = some is → ts = is.map .var
  | [], is, h => by cases h; rfl
  | .var i :: ts, is, h => by
    obtain ⟨js, h1, rfl⟩ := Option.map_eq_some_iff.mp (show (varsOf ts).map (fun is => i :: is) = some is from h)
    rw [vars_of h1]; rfl
  | .idx _ _ :: ts, is, h => by cases h
theorem loc_of (C : CxOk T mus N c XR k sc sc W X) {y : Str} (h : loc sc y = true) : L2.Loc X.env.scope y ∧ (X.fn y = true ∨ X.env.scope.names.lookup y = some .local) := by
  unfold loc at h
  simp only [Bool.or_eq_true, decide_eq_true_eq] at h
  rw [C.hsc]
  refine ⟨h, ?_⟩
  rcases h with z | z
  · exact .inr z
  · exact .inl (C.fnx y z)
theorem par_no (C : CxOk T mus N c XR k sc sc W X) {ns es : List Expr} {kt k2 : Nat} {pt pt2 : Pos} {is : List Nat} (hn : okNames N sc sc is ns = true) (h : parNo sc ns = true) : swappedStores [.Tuple ns kt pt] (.Tuple es k2 pt2) X.env = pure none := by
  -- some name is no local: fewer names than targets
  have key : ∀ (l : Nat) (is : List Nat) (ns : List Expr), okNames N sc sc is ns = true → ((ns.filterMap fun
      | .Name id pos => if X.env.kindOf id == some .local && pos.line == l then some id else none
      | _ => none).length ≤ ns.length) ∧ (parNo sc ns = true → (ns.filterMap fun
      | .Name id pos => if X.env.kindOf id == some .local && pos.line == l then some id else none
      | _ => none).length < ns.length) := by
    intro l is
    induction is with
    | nil =>
      intro ns h
      cases ns with
      | nil => exact ⟨Nat.le_refl _, fun z => by cases z⟩
      | cons _ _ => cases h
    | cons i is ih =>
      intro ns h
      cases ns with
      | nil => cases h
      | cons e ns =>
        cases e with
        | Name x p =>
          simp only [okNames, Bool.and_eq_true] at h
          obtain ⟨i1, i2⟩ := ih ns h.2.2
          have hk : X.env.kindOf x = sc.names.lookup x := by unfold Env.kindOf; rw [C.hsc]
          rw [List.filterMap_cons]
          simp only [hk]
          by_cases c1 : sc.names.lookup x = some .local
          · constructor
            · split
              · exact Nat.le_succ_of_le i1
              · exact Nat.succ_le_succ i1
            · intro z
              unfold parNo at z
              rw [List.any_cons] at z
              simp only [c1, decide_true, Bool.not_true, Bool.false_or] at z
              have := i2 z
              split
              · exact Nat.lt_succ_of_lt this
              · exact Nat.succ_lt_succ this
          · have : (sc.names.lookup x == some NameKind.local) = false := by simpa using c1
            simp only [this, Bool.false_and]
            exact ⟨Nat.le_succ_of_le i1, fun _ => Nat.lt_succ_of_le i1⟩
        | _ => cases h
  unfold swappedStores
  simp only
  split
  · rfl
  · split
    · rfl
    · have := (key ((ns.head?.map (·.pos.line)).getD 0) is ns hn).2 h
      rw [if_pos]
      rw [Bool.or_eq_true]
      left
      exact bne_iff_ne.mpr (Nat.ne_of_lt this)
theorem setC_of (C : CxOk T mus N c XR k sc sc W X) {n i : Nat} {t : Tg} {s : It} {cs' : List E} {x : E} {own : List Nat} {elt tg iter : Expr} {ifs : List Expr} {scope : Scope} {pos pos' spos : Pos} {y : Str} (hi : N[i]? = some y) (hy : sc.names.lookup y = some .local)
    (hsw : swapsWith (.ListComp elt [⟨tg, iter, ifs, 0⟩] scope pos) (some (.Name y pos')) spos.line X.env = pure true) (hb : blkB N sc scope (own.map fun i => (N.getD i "", i)) = true) (sub : ∀ j ∈ tgVars t, j ∈ own) (hg : okG N n scope (rel sc scope) t tg = true)
    (ht : ∀ X', CxOk T mus N c XR k scope (rel sc scope) WF X' → STs mus c XR WF X' cs' ifs) (he : ∀ X', CxOk T mus N c XR k scope (rel sc scope) WF X' → SE mus c XR WF X' x elt) (hs : notSet iter = true) (hit : SI mus c XR W X s tg iter) (hp : pr ≠ some i) :
    SS mus c XR W pr X (.set i (.comp t s cs' x own)) (.Assign [.Name y pos'] (.ListComp elt [⟨tg, iter, ifs, 0⟩] scope pos) spos) := by
  have bo := blk_ok hb
  have e1 : (own.map fun i => (N.getD i ("" : Str), i)).map (·.2) = own := by
    rw [List.map_map]; exact List.map_id' own
  have CB := fun (s : Shared) (H : Hp) (C' : Addr) (cl : List (Str × Addr)) (fp : List Addr) => C.blk (scope := scope) bo.kind s H (compEnvC scope cl C' X.env) (rel_eq C.hsc) fp
  have key := ss_setC (pr := pr) (W := W) (own := own.map fun i => (N.getD i ("" : Str), i)) (pos := pos) (scope := scope) (mus := mus) (c := c) (XR := XR) (i := i) C.calm (by rw [C.hN]; exact C.nd) (by rw [C.hN]; exact hi) (by rw [C.hsc]; exact hy) hsw hit (by rw [C.hN, C.hsc]; exact bo) (by rw [e1]; exact sub)
    (fun s H C' cl fp => sg_of (CB s H C' cl fp) hg) (fun s H C' cl fp => ht _ (CB s H C' cl fp)) (fun s H C' cl fp => he _ (CB s H C' cl fp)) (set_plain hs) hp
  rw [e1] at key
  exact key
theorem par_of (C : CxOk T mus N c XR k sc sc W X) {is : List Nat} {ns es : List Expr} {as : List E} {kt k2 : Nat} {pt pt2 pos : Pos} (h : parOk N sc is ns es = true) (ha : SV mus c XR W X as es) (hp : ∀ i ∈ is, pr ≠ some i) :
    SS mus c XR W pr X (.par (is.map .var) as) (.Assign [.Tuple ns kt pt] (.Tuple es k2 pt2) pos) := by
  unfold parOk at h
  split at h
  · simp only [Bool.and_eq_true, decide_eq_true_eq, Bool.not_eq_true', decide_eq_false_iff_not] at h
    obtain ⟨h1, h2, h3, h4, h5, h6, h7, h8, h9, h10, h11⟩ := h
    exact ss_par C.calm (by rw [C.hN]; exact C.nd) (by rw [C.hN]; exact h1) (by rw [C.hN]; exact h2) h3 (by rw [C.hsc]; exact h4) (by rw [C.hsc]; exact h5) ha (sw2 C.kind C.hsc h4 h5 h6 h7 h8 h9 h10 h11) rfl hp
  · cases h
theorem sole_no {t e : Expr} {l : Nat} {env : PySem.Env} (h : notComp e = true) : swapsWithSole [t] e l env = pure false := sw_no h
theorem okS_sound (C : CxOk T mus N c XR k sc sc W X) (hp : PassesOwn (model X.prog X.w) X.A X.env X.xe) : ∀ n : Nat, (∀ s st, okS T mus N pr n sc s st = true → SS mus c XR W pr X s st) ∧ ∀ ss sts, okB T mus N pr n sc ss sts = true → SB mus c XR W pr X ss sts := by
  intro n
  induction n with
  | zero => exact ⟨fun s st h => by simp [okS] at h, fun ss sts h => by simp [okB] at h⟩
  | succ n ih =>
    obtain ⟨is, ib⟩ := ih
    have iv : ∀ a e, ok T mus N n .v sc a e = true → SE mus c XR W X a e := fun a e h => ok_sound n .v sc sc a e X W C h
    have it : ∀ a e, ok T mus N n .t sc a e = true → ST mus c XR W X a e := fun a e h => ok_sound n .t sc sc a e X W C h
    have hN : X.N.Nodup := by rw [C.hN]; exact C.nd
    refine ⟨fun s st h => ?_, fun ss sts h => ?_⟩
    · unfold okS at h
      split at h
      · rw [Bool.and_eq_true] at h
        exact ss_expr (iv _ _ h.2) (sw_no h.1)
      · simp only [Bool.and_eq_true, decide_eq_true_eq] at h
        obtain ⟨h1, h2, h3⟩ := h
        split at h3
        · rename_i hsw
          simp only [Bool.and_eq_true, decide_eq_true_eq, List.all_eq_true] at h3
          obtain ⟨rfl, g1, g2, g3, g4, g5, g6, g7⟩ := h3
          have hl := hsw
          unfold swB at hl
          rw [Bool.and_eq_true, decide_eq_true_eq] at hl
          refine setC_of C h1 hl.1 ?_ g1 g2 g3 (fun X' C' => cs_of (fun a e hh => ok_sound n .t _ _ a e X' WF C' hh) g4) (fun X' C' => ok_sound n .v _ _ _ _ X' WF C' g5) g6 (si_ok C iv g7) (ne_of h2)
          rw [sw_comp C.kind C.hsc, hsw]
        · rename_i hsw
          rw [Bool.and_eq_true] at h3
          obtain ⟨l1, l2⟩ := loc_of C h3.1
          refine ss_set hN (by rw [C.hN]; exact h1) l1 (iv _ _ h3.2) ?_ l2 (ne_of h2)
          rw [sw_comp C.kind C.hsc, eq_false_of_ne_true hsw]
      · simp only [Bool.and_eq_true, decide_eq_true_eq] at h
        obtain ⟨h1, h2, h3, h4, h5⟩ := h
        obtain ⟨l1, l2⟩ := loc_of C h3
        exact ss_set hN (by rw [C.hN]; exact h1) l1 (iv _ _ h5) (sw_no h4) l2 (ne_of h2)
      · simp only [Bool.and_eq_true, List.all_eq_true, Bool.not_eq_true'] at h
        obtain ⟨h1, h2, h3, h4, h5, h6⟩ := h
        exact ss_unp (iv _ _ h5) (sg_of C h4) (sw_no h3) (stores_no h2) (assign_one h1) fun m e hm => ne_of (h6 m hm) e
      · split at h
        · rename_i hv
          simp only [Bool.and_eq_true, Bool.or_eq_true, List.all_eq_true, decide_eq_true_eq] at h
          obtain ⟨h1, h2, h3⟩ := h
          rw [vars_of hv]
          rcases h3 with h3 | ⟨h4, h5, h6⟩
          · exact par_of C h3 (sv_of iv h2) fun i hi => ne_of (h1 i hi)
          · exact ss_parG C h4 (sv_of iv h2) (par_no C h4 h5) h6 fun i hi => ne_of (h1 i hi)
        · cases h
      · simp only [Bool.and_eq_true, Bool.or_eq_true] at h
        obtain ⟨h1, h2, h3, h4, h5, h6⟩ := h
        exact ss_put (iv _ _ h3) (iv _ _ h4) (iv _ _ h5) h6 (assign_sub h1) (sole_no h2) stores_sub rfl
      · simp only [Bool.and_eq_true] at h
        obtain ⟨h1, h2, h3⟩ := h
        exact ss_ite (it _ _ h1) (ib _ _ h2) (ib _ _ h3)
      · rw [Bool.and_eq_true] at h
        exact ss_while hp (it _ _ h.1) (ib _ _ h.2)
      · simp only [Bool.and_eq_true, List.all_eq_true] at h
        obtain ⟨h1, h2, h3, h4, h5⟩ := h
        exact ss_for hp C.calm (si_ok C iv h2) (sg_of C h1) (ib _ _ h5) (set_plain h3) fun m e hm => ne_of (h4 m hm) e
      · exact ss_ret (iv _ _ h)
      · exact ss_retN
      · exact ss_pass
      · exact ss_cont
      · exact ss_brk
      · cases h
    · cases ss with
      | nil => cases sts with
        | nil => exact sb_nil
        | cons _ _ => simp [okB] at h
      | cons s ss => cases sts with
        | nil => simp [okB] at h
        | cons st sts =>
          simp only [okB, Bool.and_eq_true] at h
          exact sb_cons (is _ _ h.1) (ib _ _ h.2)
end
end HW
end

section
set_option Elab.async false
set_option linter.all false
set_option maxRecDepth 100000
set_option maxHeartbeats 4000000
/-! # All defs of a program; the law's end -/
namespace HW
open PySem PySem.Spec PyProof.Rows L2
/-- the written part without the object at a -/
def strip (K : PySem.W.Frag) (a : Addr) : PySem.W.Frag := K.filter fun p => !(p.1 == a)
theorem strip_at {K : PySem.W.Frag} {a : Addr} : (strip K a).lookup a = none := by
  induction K with
  | nil => rfl
  | cons p K ih =>
    obtain ⟨b, o⟩ := p
    unfold strip at ih ⊢
    rw [List.filter_cons]
    split
    · rename_i h
      rw [List.lookup_cons]
      have : (a == b) = false := by
        simp at h
        simpa using fun e : a = b => h e.symm
      rw [this]
      exact ih
    · exact ih
theorem strip_ne {K : PySem.W.Frag} {a b : Addr} (h : b ≠ a) : (strip K a).lookup b = K.lookup b := by
  induction K with
  | nil => rfl
  | cons p K ih =>
    obtain ⟨c, o⟩ := p
    unfold strip at ih ⊢
    rw [List.filter_cons]
    by_cases e : b = c
    · subst e
      have : (!(b == a)) = true := by simpa using h
      rw [if_pos this, List.lookup_cons, List.lookup_cons]
      simp
    · have ec : (b == c) = false := by simpa using e
      split
      · rw [List.lookup_cons, List.lookup_cons, ec]; exact ih
      · rw [List.lookup_cons, ec]; exact ih
theorem strip_in {K : PySem.W.Frag} {a : Addr} {h : Heap} (k : K.In h) : (strip K a).In h := fun b o e => by
  by_cases c : b = a
  · subst c; rw [strip_at] at e; cases e
  · rw [strip_ne c] at e; exact k b o e
/-- a def that stands in the written part stands in it without the script, too -/
theorem FunD.strip {K : PySem.W.Frag} {x qual : Str} {params : Arguments} {body : List Stmt} {scope : Scope} {f a : Addr} {fd : FuncData} {h : Heap} {vs : Array Value} (kin : K.In h) (ha : h.get? a = some { cls := .type "list", data := .seq vs }) (F : FunD K x qual params body scope [] [] f fd) : FunD (HW.strip K a) x qual params body scope [] [] f fd := by
  obtain ⟨⟨oc, od, dV, kV, doc, pm, an, cdv, ct, osl, e1, lk, hcd, hD, hK⟩, kp⟩ := F
  have nf : f ≠ a := by
    rintro rfl
    have := kin _ _ lk
    rw [ha] at this
    injection this with e
    injection e with _ _ e3
    cases e3
  have lk' : (HW.strip K a).lookup f = some ⟨oc, od, .func fd, osl⟩ := by rw [strip_ne nf]; exact lk
  refine ⟨⟨oc, od, dV, kV, doc, pm, an, cdv, ct, osl, e1, lk', ?_, ?_, ?_⟩, ?_⟩
  · unfold PySem.W.codeIn at hcd ⊢
    cases cdv with
    | ref c =>
      simp only at hcd ⊢
      have nc : c ≠ a := by
        rintro rfl
        cases z : K.lookup c with
        | none => rw [z] at hcd; cases hcd
        | some o =>
          have e := kin _ _ z
          rw [ha] at e
          cases e
          rw [z] at hcd; cases hcd
      rw [strip_ne nc]
      exact hcd
    | _ => cases hcd
  · rcases hD with z | ⟨z, _⟩
    · exact .inl z
    · exact absurd rfl z
  · exact .inl rfl
  · unfold PySem.W.keepIn
    simp only [lk']
theorem FunD.okG {P : Program} {w : World} {K : PySem.W.Frag} {mg : Str → Option Value} {base : Heap} {x qual : Str} {params : Arguments} {body : List Stmt} {scope : Scope} {dvs : List V} {kws : List (Str × V)} {f : Addr} {fd : FuncData} {CX : CXT} {N ps : List Str} {k : Nat} {sp : Sp} (F : FunD K x qual params body scope dvs kws f fd) (S : FnScope N ps scope) (len : ∀ vs H Q E, sp vs H Q E → vs.length = ps.length)
    (does : ∀ (cdv : Value) (A : Around) (outer : List PySem.Env) (s : Shared) (H : Hp) (vs : List V) (Q : VK) (E : XK), A.guards = some [] → Room k (A.deeper (envOfC qual scope s.heap.objs.size f cdv)) → sp vs H Q E →
      ∃ t, PSs (cxOf CX P w K mg base N qual scope f cdv A outer s H E) body t ∧ t { nx := fun _ H' => Q .non H', rt := Q } (start N vs) H) : FnG P w K mg base CX (k + 1) f fd ps sp := by
  obtain ⟨⟨oc, od, dV, kV, doc, pm, an, cdv, ct, osl, rfl, lk, hcd, _, _⟩, _⟩ := F
  exact fn_ofG lk hcd S len fun A outer s H vs Q E gu hr h => does cdv A outer s H vs Q E gu hr h
/-! ## a program -/
structure PD where
  g : Nat
  ft : FnT
  N : List Str
  ps : List Str
  st : Stmt
  fn : Fn
def tabT (L : List PD) (g : Nat) : Option FnT := (L.find? fun p => p.g == g).map (·.ft)
def tabG (L : List PD) (g : Nat) : Option Fn := (L.find? fun p => p.g == g).map (·.fn)
def musOf (L : List PD) (g : Nat) : Option Nat := (tabG L g).bind (·.mu)
def scopeB (N ps : List Str) (sc : Scope) : Bool :=
  decide (sc.kind = .function) && (decide (sc.isCoroutine = false) && (decide (sc.isGenerator = false) && (decide N.Nodup && (decide (N.take ps.length = ps) && ((ps.all fun x => loc sc x) && sc.names.all fun y => !decide (y.2 = .free))))))
theorem scope_of {N ps : List Str} {sc : Scope} (h : scopeB N ps sc = true) : FnScope N ps sc := by
  unfold scopeB at h
  simp only [Bool.and_eq_true, decide_eq_true_eq, List.all_eq_true, Bool.not_eq_true', decide_eq_false_iff_not] at h
  obtain ⟨h1, h2, h3, h4, h5, h6, h7⟩ := h
  exact ⟨h1, h2, h3, h4, h5, fun x hx => by simpa [loc] using h6 x hx, h7⟩
def pdB (L : List PD) (p : PD) : Bool :=
  scopeB p.N p.ps (defScope p.st) && (decide (p.N.length = p.fn.ns) && (decide (p.fn.np = p.ft.np) && (decide (p.ps.length = p.ft.np) && ((L.find? fun q => q.g == p.g).isSome && (!(p.ft.name == ("__debug__" : Str)) && okB (tabT L) (musOf L) p.N p.fn.mu 400 (defScope p.st) p.fn.body (defBody p.st))))))
/-- what the head tells of a def -/
structure PF (K : PySem.W.Frag) (mg : Str → Option Value) (p : PD) (f : Addr) (fd : FuncData) : Prop where
  F : FunD K p.ft.name p.ft.name (defArgs p.st) (defBody p.st) (defScope p.st) [] [] f fd
  mg : mg p.ft.name = some (.ref f)
  bd : Binds K fd p.ps []
  kw : ∀ q ∈ p.ft.kws, KwB K fd p.ps q.1 q.2
theorem find_of {L : List PD} {g : Nat} {p : PD} (h : (L.find? fun q => q.g == g) = some p) : p ∈ L ∧ p.g = g :=
  ⟨List.mem_of_find?_eq_some h, by simpa using List.find?_some h⟩
/-- each def keeps its promise, n calls deep -/
theorem all_G {P : Program} {w : World} {K : PySem.W.Frag} {mg : Str → Option Value} {base : Heap} {XR : XRel} {L : List PD} (ck : ∀ p ∈ L, pdB L p = true) (fa : PD → Addr) (fd : PD → FuncData) (pf : ∀ p ∈ L, PF K mg p (fa p) (fd p)) (bl : ∀ b ∈ bnames, mg b = none) (uq : ∀ p ∈ L, (L.find? fun q => q.g == p.g) = some p) :
    ∀ n, ∀ p ∈ L, FnG P w K mg base (L2.CX P w) n (fa p) (fd p) p.ps (Prom K XR (callN (tabG L) n) p.fn.mu p.ft.np p.g) := by
  intro n
  induction n with
  | zero =>
    intro p hp
    have c := ck p hp
    simp only [pdB, Bool.and_eq_true, decide_eq_true_eq] at c
    refine ⟨fun vs H Q E h => by rw [c.2.2.2.1]; exact h.1, fun A outer s H args us vs Q E _ _ _ _ _ h => ?_⟩
    obtain ⟨_, F, os, S, _, _, _, _, _, z⟩ := h
    exact z.elim
  | succ n ih =>
    intro p hp
    have c := ck p hp
    simp only [pdB, Bool.and_eq_true, decide_eq_true_eq, Bool.not_eq_true'] at c
    obtain ⟨c1, c2, c3, c4, c5, c6, c7⟩ := c
    have S := scope_of c1
    have hG : tabG L p.g = some p.fn := by unfold tabG; rw [uq p hp]; rfl
    refine FunD.okG (pf p hp).F S (fun vs H Q E h => by rw [c4]; exact h.1) fun cdv A outer s H vs Q E gu room h => ?_
    have C : CxOk (tabT L) (musOf L) p.N (callN (tabG L) n) XR n (defScope p.st) (defScope p.st) (fun cls d _ H' => E cls d H') (cxOf (L2.CX P w) P w K mg base p.N p.ft.name (defScope p.st) (fa p) cdv A outer s H E) := by
      refine ⟨rfl, rfl, S.nd, rfl, S.kind, ?_, ?_, room, takes_of rfl rfl rfl rfl, bl, fun _ _ => rfl, fun g ft hT => ?_⟩
      · show (A.deeper _).guards = some []
        exact gu
      · have := room.un
        show (A.deeper _).units + 70 < cLine
        omega
      · unfold tabT at hT
        obtain ⟨q, hq, rfl⟩ := Option.map_eq_some_iff.mp hT
        obtain ⟨mq, rfl⟩ := find_of hq
        have cq := ck q mq
        simp only [pdB, Bool.and_eq_true, decide_eq_true_eq, Bool.not_eq_true'] at cq
        have em : musOf L q.g = q.fn.mu := by unfold musOf tabG; rw [hq]; rfl
        exact ⟨fa q, fd q, q.ps, ⟨by rw [em]; exact ih q mq, (pf q mq).mg, (pf q mq).F.kp, (pf q mq).bd, cq.2.2.2.1, cq.2.2.2.2.2.1, (pf q mq).kw⟩⟩
    obtain ⟨t, pt, mt⟩ := (okS_sound (pr := p.fn.mu) C (passes_of rfl) 400).2 p.fn.body (defBody p.st) c7
    refine ⟨t, pt, prom_body (g := p.g) (G := tabG L) (n := n) (fn := p.fn) hG c2 mt ?_⟩
    rw [c3]
    exact h
end HW
end

section
set_option Elab.async false
set_option linter.all false
set_option maxRecDepth 100000
set_option maxHeartbeats 4000000
/-! # The law's call, at the heap behind the top -/
namespace HW
open PySem PySem.Spec PyProof.Rows L2
def XR0 : XRel := fun _ _ _ _ _ => False
section
variable {P : Program} {w : World} {K : PySem.W.Frag} {mg mb : Str → Option Value} {k : Nat} {fa a : Addr} {fd : FuncData} {x : Str} {sp : Sp} {s1 : Shared} {vs : List Value} {ns : List Int}
/-- nothing is tracked but the script -/
def hpA (a : Addr) (vs : List Value) (ns : List Int) : Hp := fun b => if b = a then some (.frz { cls := .type "list", data := .seq vs.toArray } (.lst (ns.map V.int))) else none
theorem hpA_at : hpA a vs ns a = some (.frz { cls := .type "list", data := .seq vs.toArray } (.lst (ns.map V.int))) := if_pos rfl
theorem hpA_ne {b : Addr} (h : b ≠ a) : hpA a vs ns b = none := if_neg h
theorem law_callG (kin : K.In s1.heap) (gns : s1.heap.Ns mainGlobals mg) (bns : s1.heap.Ns builtinsNs mb) (bt : ∀ y : Str, y ≠ "__name__" → mb y = bootBuiltins y) (nl : s1.heap.NoLimit) (gz : s1.gens = #[])
    (at_ : s1.heap.get? a = some { cls := .type "list", data := .seq vs.toArray }) (iar : IntsAre vs ns) (few : ns.length ≤ sizeLine) (room : Room k callerA) (na : K.lookup a = none)
    (G : ∀ base : Heap, K.In base → base.Ns mainGlobals mg → FnG P w K mg base (L2.CX P w) k fa fd [x] sp) (bind : ∀ (s : Shared) (u : Value), BindsTo s fd ⟨[u], []⟩ [(x, u)])
    (does : sp [.ref a] (hpA a vs ns) (fun v _ => v = .bl true) fun _ _ _ => False) :
    codeAny (model P w) callerA (.call (.ref fa) ⟨[.ref a], []⟩) (fun r s' => r = .ok (.ret (.bool true)) ∧ OldK s1.heap s'.heap ∧ s'.os = s1.os ∧ AllBare s'.gens) s1 := by
  have out : ∀ {b : Addr} {o : Obj}, s1.heap.get? b = some o → hpA a vs ns b = none → (hidT s1.heap (hpA a vs ns)).get? b = some o := fun z1 z2 => hidT_get z1 z2
  have kb : K.In (hidT s1.heap (hpA a vs ns)) := fun b o z => out (kin b o z) (hpA_ne (by rintro rfl; rw [na] at z; cases z))
  have nsb : ∀ {b : Addr} {m : Str → Option Value}, s1.heap.Ns b m → (hidT s1.heap (hpA a vs ns)).Ns b m := fun {b m} ⟨o, es, ep, z, dz, rz⟩ => by
    refine ⟨o, es, ep, out z (hpA_ne ?_), dz, rz⟩
    rintro rfl
    rw [at_] at z
    cases z
    exact absurd (show Data.seq vs.toArray _ = Data.dict es ep from dz) (by intro z; cases z)
  have md : Mod K mg (hidT s1.heap (hpA a vs ns)) := by
    obtain ⟨mc, l1, l2⟩ := nl
    exact ⟨kb, nsb gns, ⟨mb, nsb bns, bt⟩, ⟨mc, nsb l1, l2⟩⟩
  have hk : HOk P w (hpA a vs ns) s1.heap := fun b u z => by
    by_cases c : b = a
    · subst c
      rw [hpA_at] at z
      cases z
      exact ⟨at_, by rw [List.length_map]; exact few, vs, _, vals_ints iar, at_⟩
    · rw [hpA_ne c] at z; cases z
  have e0 : Env0 P w K mg (hidT s1.heap (hpA a vs ns)) callerA [] s1 (hpA a vs ns) :=
    ⟨rfl, md, fun b o z => of_hidT z, Nat.le_of_eq (hidT_size _ _), trivial, fun b hb => (by cases (show b ∈ ([] : List Addr) from hb)), hk, .of_eq gz⟩
  refine codeAny_mono ((G _ kb (nsb gns)).run callerA [] s1 _ ⟨[.ref a], []⟩ [.ref a] [.ref a] _ _ rfl room e0 (bind s1 (.ref a)) (.cons rfl .nil) does) fun r s' z => ?_
  cases r with
  | error y =>
    obtain ⟨_, _, _, _, _, _, _, _, _, _, _, _, no⟩ := z
    exact no.elim
  | ok fl =>
    cases fl with
    | next => exact False.elim z
    | brk => exact False.elim z
    | cont => exact False.elim z
    | ret u =>
      obtain ⟨v, H', os, bare, un, hk', rv, q⟩ := z
      cases (show v = .bl true from q)
      cases (show u = Value.bool true from rv)
      refine ⟨rfl, OldK.of_keep fun b o z => ?_, os, bare⟩
      by_cases c : b = a
      · subst c
        have f1 := un.frzs b _ _ (hpA_at (vs := vs) (ns := ns))
        obtain ⟨g1, _⟩ := hk' b _ f1
        rw [at_] at z; cases z
        exact g1
      · exact un.keep b o z (hpA_ne c) (by simp [frs]) (by simp)
end
/-- what the small law says is what the machine's law does -/
theorem prom_law {K : PySem.W.Frag} {XR : XRel} {c : CallF} {g : Nat} {a : Addr} {vs : List Value} {ns : List Int} (h : c g [.fz (.list (ns.map .int))] = .ok (.fz (.bool true)) none) : Prom K XR c none 1 g [.ref a] (hpA a vs ns) (fun v _ => v = .bl true) fun _ _ _ => False := by
  refine ⟨rfl, fun b => b = a, [.fz (.list (ns.map .int))], [], ?_, List.nodup_nil, fun b hb => (by cases hb), fun b e => (by rw [show b = a from e, hpA_at]; exact fun z => (nomatch z)), fun _ => rfl, ?_⟩
  · exact ⟨.ref a, [], [], [], rfl, ⟨⟨a, ns.map V.int, rfl, rfl, .inr ⟨_, hpA_at⟩, FzAll.of_ints ns⟩, rfl⟩, ⟨rfl, rfl⟩, rfl⟩
  · rw [h]
    intro v H' F' Sv So ow _ _ _ _ _
    exact ow.1
theorem walk_G {l : PySem.W.OpenLaw} {n k : Nat} {q : Program} {loose : List Str} {XP : (Str → Option Value) → Heap → Prop} {YP : World → Heap → Prop} {d : DefRec} {x : Str} {c : CallF} {g : Nat}
    (hn : l.most = some n) (hn2 : n ≤ sizeLine) (hdf : d.params.defaults = []) (hr : Room k callerA)
    (F : ∀ (w : World) (mg : Str → Option Value) (fa : Addr) (h : Heap), YP w h → h.Ns mainGlobals mg → mg d.name = some (.ref fa) →
      ∃ K : PySem.W.Frag, K.In h ∧ ∀ (a : Addr) (vs : Array Value), h.get? a = some { cls := .type "list", data := .seq vs } → ∃ fd : FuncData, (∀ (s : Shared) (u : Value), BindsTo s fd ⟨[u], []⟩ [(x, u)]) ∧
        ∀ base : Heap, (strip K a).In base → base.Ns mainGlobals mg → FnG l.prog w (strip K a) mg base (L2.CX l.prog w) k fa fd [x] (Prom (strip K a) XR0 c none 1 g))
    (law : ∀ ns : List Int, ns.length ≤ n → (∀ i ∈ ns, Builtin.Int.intBits i ≤ 1048576) → c g [.fz (.list (ns.map .int))] = .ok (.fz (.bool true)) none) :
    PySem.W.WalkO q loose XP YP l.row.toRowW d [] (fun f vs => PySem.call f vs) := by
  refine Att.attach_callB hn hdf fun w s0 s1 mg mb fa o pm cd doc a vs ns gr yp ho hd hcd hmg hobj hints hlen hbits hg => ?_
  obtain ⟨K, kin, f⟩ := F w mg fa _ yp gr.T.g hmg
  obtain ⟨fd, hb, hG⟩ := f a vs.toArray hobj
  exact law_callG (strip_in kin) gr.T.g gr.T.b gr.T.builtins gr.T.nolimit hg hobj hints (Nat.le_trans hlen hn2) hr strip_at hG hb (prom_law (law ns hlen hbits))
end HW
end

section
set_option Elab.async false
set_option linter.all false
set_option maxRecDepth 100000
set_option maxHeartbeats 4000000
/-! # The head's facts, by the list of defs -/
namespace HW
open PySem PySem.Spec PyProof.Rows L2
/-- a def's row, as the head's hook wants it -/
def PD.dd (p : PD) : He.DefD := ⟨(p.ft.name, none), p.ft.name, p.ft.name, defArgs p.st, defBody p.st, defScope p.st, [], []⟩
def fnL (L : List PD) : List He.DefD := L.map PD.dd
def faL (L : List PD) : List He.Fa := L.map (fun p => .glo p.ft.name) ++ bnames.map .free
/-- how a def binds positional values -/
def BindP (p : PD) : Prop := ∀ (kV doc pm : Value) (an : Option Addr) (cdv ct : Value) (us : List Value), us.length = p.ps.length → bindArgs (PySem.W.fnOf p.ft.name p.ft.name (defArgs p.st) (defBody p.st) (defScope p.st) .none kV doc pm an cdv ct) ⟨us, []⟩ = pure (p.ps.zip us)
/-- .. and keywords -/
def KwP (p : PD) (q : List Str × List Nat) : Prop := ∀ (kV doc pm : Value) (an : Option Addr) (cdv ct : Value) (ws us : List Value), ws.length = q.1.length → (q.2.mapM fun i => ws[i]?) = some us → bindArgs (PySem.W.fnOf p.ft.name p.ft.name (defArgs p.st) (defBody p.st) (defScope p.st) .none kV doc pm an cdv ct) ⟨[], q.1.zip ws⟩ = pure (p.ps.zip us)
theorem binds_of {K : PySem.W.Frag} {p : PD} {f : Addr} {fd : FuncData} (F : FunD K p.ft.name p.ft.name (defArgs p.st) (defBody p.st) (defScope p.st) [] [] f fd) (h : BindP p) : Binds K fd p.ps [] := FunD.bindsN F h
theorem kwb_of {K : PySem.W.Frag} {p : PD} {q : List Str × List Nat} {f : Addr} {fd : FuncData} (F : FunD K p.ft.name p.ft.name (defArgs p.st) (defBody p.st) (defScope p.st) [] [] f fd) (h : KwP p q) : KwB K fd p.ps q.1 q.2 := by
  obtain ⟨oc, od, dV, kV, doc, pm, an, cdv, ct, osl, rfl, _, _, hD, _⟩ := F.ex
  rcases hD with ⟨_, rfl⟩ | ⟨z, _⟩
  · exact fun s ws us _ hl hu => .of_eq (h kV doc pm an cdv ct ws us hl hu)
  · exact absurd rfl z
/-- all that the law's end asks, from what the hook says -/
theorem facts_of {P : Program} {w : World} {K : PySem.W.Frag} {h : Heap} {mg : Str → Option Value} {L : List PD} {pl : PD} {fa : Addr} {n : Nat} {x : Str} (ck : ∀ p ∈ L, pdB L p = true) (uq : ∀ p ∈ L, (L.find? fun q => q.g == p.g) = some p) (bp : ∀ p ∈ L, BindP p) (kp : ∀ p ∈ L, ∀ q ∈ p.ft.kws, KwP p q)
    (hl : pl ∈ L) (hn : pl.ft.np = 1) (hps : pl.ps = [x]) (hmu : pl.fn.mu = none) (kin : K.In h) (gns : h.Ns mainGlobals mg) (gfa : mg pl.ft.name = some (.ref fa)) (c : He.SaysD (faL L) (fnL L) K) :
    ∀ (a : Addr) (vs : Array Value), h.get? a = some { cls := .type "list", data := .seq vs } → ∃ fd : FuncData, (∀ (s : Shared) (u : Value), BindsTo s fd ⟨[u], []⟩ [(x, u)]) ∧
      ∀ base : Heap, (strip K a).In base → base.Ns mainGlobals mg → FnG P w (strip K a) mg base (L2.CX P w) n fa fd [x] (Prom (strip K a) XR0 (callN (tabG L) n) none 1 pl.g) := by
  intro a vs ha
  have glo : ∀ p ∈ L, mg p.ft.name = some (.ref (He.ga K p.ft.name)) := fun p hp => He.glo_ok kin gns (c.facts (List.mem_append_left _ (List.mem_map.mpr ⟨p, hp, rfl⟩)))
  have bl : ∀ b ∈ bnames, mg b = none := fun b hb => He.free_ok kin gns (c.facts (List.mem_append_right _ (List.mem_map.mpr ⟨b, hb, rfl⟩)))
  have all : ∀ p : PD, ∃ fd : FuncData, p ∈ L → PF (strip K a) mg p (He.fAd K (p.ft.name, none)) fd := fun p => by
    by_cases hp : p ∈ L
    · obtain ⟨fd, F⟩ := c.defs (d := p.dd) (List.mem_map.mpr ⟨p, hp, rfl⟩)
      have F0 : FunD K p.ft.name p.ft.name (defArgs p.st) (defBody p.st) (defScope p.st) [] [] (He.fAd K (p.ft.name, none)) fd := F
      have F1 := FunD.strip kin ha F0
      exact ⟨fd, fun _ => ⟨F1, glo p hp, binds_of F1 (bp p hp), fun q hq => kwb_of F1 (kp p hp q hq)⟩⟩
    · exact ⟨default, fun z => absurd z hp⟩
  have ax := Classical.axiomOfChoice all
  obtain ⟨fd, hfd⟩ := ax
  refine ⟨fd pl, fun s u => ?_, fun base kb nb => ?_⟩
  · obtain ⟨fd0, F0⟩ := c.defs (d := pl.dd) (List.mem_map.mpr ⟨pl, hl, rfl⟩)
    have := FunD.bindsA (ps := pl.ps) (hfd pl hl).F (bp pl hl) s [u] (by rw [hps]; rfl)
    rw [hps] at this
    exact this
  · have g := all_G (P := P) (w := w) (base := base) (XR := XR0) ck (fun p => He.fAd K (p.ft.name, none)) fd (fun p hp => hfd p hp) bl uq n pl hl
    rw [hps, hmu, hn] at g
    have e : fa = He.fAd K (pl.ft.name, none) := by
      have := (hfd pl hl).mg
      rw [gfa] at this
      injection this with z
      injection z
    rw [e]
    exact g
end HW
end

section
set_option linter.all false
/-! # Plain: what a piece of the interpreter gives -/
namespace HW
open PySem
def wp {α : Type} (m : M α) (e : Env) (P : α → Env → Prop) : Prop := match m e with
  | .ok a e' => P a e'
  | _ => False
theorem wp_ok {α : Type} {m : M α} {e : Env} {P : α → Env → Prop} (h : wp m e P) : ∃ a e', m e = .ok a e' ∧ P a e' := by
  unfold wp at h
  split at h
  · rename_i a e' z
    exact ⟨a, e', z, h⟩
  · exact h.elim
theorem wp_of {α : Type} {m : M α} {e : Env} {P : α → Env → Prop} {a : α} {e' : Env} (h : m e = .ok a e') (p : P a e') : wp m e P := by
  unfold wp; rw [h]; exact p
theorem wp_mono {α : Type} {m : M α} {e : Env} {P P' : α → Env → Prop} (h : wp m e P) (i : ∀ a e', P a e' → P' a e') : wp m e P' := by
  obtain ⟨a, e', z, p⟩ := wp_ok h
  exact wp_of z (i a e' p)
theorem bind_bnd {α β : Type} {m : M α} {f : α → M β} : (m >>= f) = bnd m f := rfl
theorem wp_bnd {α β : Type} {m : M α} {f : α → M β} {e : Env} {P : β → Env → Prop} : wp (bnd m f) e P = wp m e fun a e1 => wp (f a) e1 P := by
  unfold wp bnd Out.andThen
  cases m e <;> rfl
theorem wp_ret {α : Type} {a : α} {e : Env} {P : α → Env → Prop} : wp (ret a) e P = P a e := rfl
theorem wp_bad {α : Type} {e : Env} {P : α → Env → Prop} : wp (bad : M α) e P = False := rfl
theorem wp_opt {α : Type} {a : α} {e : Env} {P : α → Env → Prop} : wp (opt (some a)) e P = P a e := rfl
theorem wp_opt0 {α : Type} {e : Env} {P : α → Env → Prop} : wp (opt (none : Option α)) e P = False := rfl
theorem wp_slot {i : Nat} {o : OD} {e : Env} {P : OD → Env → Prop} (h : e[i]? = some (some o)) : wp (slot i) e P = P o e := by
  unfold wp slot; rw [h]
theorem wp_set {i : Nat} {o : OD} {e : Env} {P : Unit → Env → Prop} (h : i < e.length) : wp (setSlot i o) e P = P () (e.set i (some o)) := by
  unfold wp setSlot; rw [if_pos h]
section
variable {mus : Nat → Option Nat} {c : CallF}
theorem ev_var {i : Nat} : ev mus c (.var i) = bnd (slot i) (varK i) := rfl
theorem ev_lit {d : PyData} : ev mus c (.lit d) = ret (.tmp (.fz d)) := rfl
theorem ev_bin {o : BOp} {a b : E} : ev mus c (.bin o a b) = bnd (bnd (ev mus c a) opd) fun p => bnd (bnd (ev mus c b) opd) fun q => bnd (keep p) fun x => bnd (keep q) fun y => bnd (opt (binD o x y)) fun z => ret (.tmp z) := rfl
theorem ev_neg {a : E} : ev mus c (.neg a) = bnd (bnd (ev mus c a) opd) fun p => bnd (see p) negK := rfl
theorem ev_cmp {o : COp} {a b : E} : ev mus c (.cmp o a b) = bnd (bnd (ev mus c a) opd) fun p => bnd (bnd (ev mus c b) opd) fun q => bnd (see p) fun x => bnd (see q) fun y => bnd (opt (cmpD o x y)) fun z => ret (.tmp (.fz (.bool z))) := rfl
theorem ev_and {a b : E} : ev mus c (.and a b) = bnd (bnd (ev mus c a) opd) fun p => bnd (see p) (boolK (ev mus c b) (ret (.tmp (.fz (.bool false))))) := rfl
theorem ev_or {a b : E} : ev mus c (.or a b) = bnd (bnd (ev mus c a) opd) fun p => bnd (see p) (boolK (ret (.tmp (.fz (.bool true)))) (ev mus c b)) := rfl
theorem ev_not {a : E} : ev mus c (.not a) = bnd (bnd (ev mus c a) opd) fun p => bnd (see p) notK := rfl
theorem ev_ite {d a b : E} : ev mus c (.ite d a b) = bnd (bnd (ev mus c d) opd) fun p => bnd (see p) fun x => bnd (opt (truD x)) fun k => if k then ev mus c a else ev mus c b := rfl
theorem ev_tup {es : List E} : ev mus c (.tup es) = bnd (evs mus c es) fun ps => bnd (giveAll ps) fun ds => if ds.length ≤ lim then ret (.tmp (.fz (.tuple ds))) else bad := rfl
theorem ev_lst {es : List E} : ev mus c (.lst es) = bnd (evo mus c es) fun os => if os.length ≤ lim then ret (.tmp (.lst os)) else bad := rfl
theorem ev_idx {a i : E} : ev mus c (.idx a i) = bnd (bnd (ev mus c a) opd) fun p => bnd (bnd (ev mus c i) opd) fun q => bnd (see q) fun k => idxK p k := rfl
theorem ev_slc {a : E} {lo hi : List E} : ev mus c (.slc a lo hi) = bnd (bnd (ev mus c a) opd) fun p => bnd (bnd (evs mus c lo) cutP) fun l => bnd (bnd (evs mus c hi) cutP) fun h => bnd (keep p) fun d => bnd (opt (cutD d l h)) fun x => ret (.tmp x) := rfl
theorem ev_call {f : Nat} {es : List E} : ev mus c (.call f es) = bnd (evs mus c es) fun ps => bnd (calling c (mus f) f ps) fun o => ret (.tmp o) := rfl
theorem ev_kcall {f : Nat} {es : List E} {p : List Nat} : ev mus c (.kcall f es p) = bnd (evs mus c es) fun ps => bnd (opt (p.mapM fun k => ps[k]?)) fun ps => bnd (calling c (mus f) f ps) fun o => ret (.tmp o) := rfl
theorem ev_bi {b : Bi} {es : List E} : ev mus c (.bi b es) = bnd (evs mus c es) fun ps => bnd (biArgs b ps) fun ds => bnd (opt (biD b ds)) fun o => ret (.tmp o) := rfl
theorem ev_comp {t : Tg} {s : It} {cs : List E} {x : E} {own : List Nat} : ev mus c (.comp t s cs x own) = bnd (evi mus c s) fun ds => compK own (fun d => bnd (tgs t d) fun _ => bnd (evc mus c cs) fun k => if k then bnd (bnd (ev mus c x) valD) fun y => ret (some y) else ret none) ds := rfl
theorem ev_meth {m : Mt} {a : E} {es : List E} : ev mus c (.meth m a es) = bnd (ev mus c a) fun p => bnd (isLst p) fun _ => bnd (evs mus c es) fun ps => bnd (giveAll ps) fun ds => match p with
    | .at i ks => bnd (slot i) fun r => bnd (opt (getAt r ks)) fun o => bnd (opt (methD m o ds)) fun x => bnd (opt (setAt r ks x.2)) fun r' => bnd (setSlot i r') fun _ => ret (.tmp (.fz x.1))
    | .tmp _ => bad := rfl
theorem evs_nil : evs mus c [] = ret [] := rfl
theorem evs_cons {a : E} {es : List E} : evs mus c (a :: es) = bnd (bnd (ev mus c a) opd) fun p => bnd (evs mus c es) fun ps => ret (p :: ps) := rfl
theorem evo_nil : evo mus c [] = ret [] := rfl
theorem evo_cons {a : E} {es : List E} : evo mus c (a :: es) = bnd (bnd (ev mus c a) val) fun o => bnd (evo mus c es) fun os => ret (o :: os) := rfl
theorem evc_nil : evc mus c [] = ret true := rfl
theorem evc_cons {a : E} {es : List E} : evc mus c (a :: es) = bnd (bnd (ev mus c a) opd) fun p => bnd (see p) fun x => opt (truD x) := rfl
theorem evi_of {a : E} : evi mus c (.of a) = bnd (bnd (ev mus c a) valD) fun d => opt (seqD d) := rfl
theorem evi_rng {es : List E} : evi mus c (.rng es) = bnd (evs mus c es) fun ps => bnd (seeAll ps) fun ds => rngK ds := rfl
theorem evi_enm {a : E} : evi mus c (.enm a) = bnd (bnd (ev mus c a) valD) fun d => bnd (opt (seqD d)) fun ds => ret (enumL 0 ds) := rfl
theorem evi_zip {es : List E} : evi mus c (.zip es) = bnd (evs mus c es) fun ps => bnd (giveAll ps) fun ds => zipK ds := rfl
theorem evi_rvs {a : E} : evi mus c (.rvs a) = bnd (bnd (ev mus c a) valD) fun d => bnd (opt (seqD d)) fun ds => ret ds.reverse := rfl
theorem exs_nil : exs mus c [] = ret .nx := rfl
theorem exs_cons {s : S} {r : List S} : exs mus c (s :: r) = bnd (ex mus c s) fun f => match f with | .nx => exs mus c r | f => ret f := rfl
theorem ex_expr {a : E} : ex mus c (.expr a) = bnd (bnd (ev mus c a) opd) fun _ => ret .nx := rfl
theorem ex_set {i : Nat} {a : E} : ex mus c (.set i a) = bnd (bnd (ev mus c a) val) fun o => bnd (setSlot i o) fun _ => ret .nx := rfl
theorem ex_unp {t : Tg} {a : E} : ex mus c (.unp t a) = bnd (bnd (ev mus c a) valD) fun d => bnd (tgs t d) fun _ => ret .nx := rfl
theorem ex_par {ts : List Tt} {es : List E} : ex mus c (.par ts es) = bnd (evo mus c es) fun os => bnd (stores mus c ts os) fun _ => ret .nx := rfl
theorem ex_put {a i x : E} : ex mus c (.put a i x) = bnd (bnd (ev mus c x) valD) fun d => bnd (ev mus c a) fun p => bnd (isAt p) fun _ => bnd (bnd (ev mus c i) opd) fun q => bnd (see q) fun k => bnd (putAt p k d) fun _ => ret .nx := rfl
theorem ex_ite {t : E} {a b : List S} : ex mus c (.ite t a b) = bnd (test mus c t) fun k => if k then exs mus c a else exs mus c b := rfl
theorem ex_whl {t : E} {b : List S} : ex mus c (.whl t b) = whileL (test mus c t) (exs mus c b) wf := rfl
theorem ex_fr {t : Tg} {s : It} {b : List S} : ex mus c (.fr t s b) = bnd (evi mus c s) fun ds => forL (fun d => bnd (tgs t d) fun _ => exs mus c b) ds := rfl
theorem ex_rt {a : E} : ex mus c (.rt a) = bnd (bnd (ev mus c a) leave) fun o => ret (.rt o) := rfl
theorem stores_nil : stores mus c [] [] = ret () := rfl
theorem stores_var {i : Nat} {ts : List Tt} {o : OD} {os : List OD} : stores mus c (.var i :: ts) (o :: os) = bnd (setSlot i o) fun _ => stores mus c ts os := rfl
theorem test_def {a : E} : test mus c a = bnd (bnd (ev mus c a) opd) fun p => bnd (see p) fun x => opt (truD x) := rfl
end
theorem opd_tmp {o : OD} : opd (.tmp o) = bnd (opt (frz o)) fun d => ret (.fz d) := rfl
theorem opd_at {i : Nat} {ks : List PyData} : opd (.at i ks) = ret (.at i ks) := rfl
theorem val_tmp {o : OD} : val (.tmp o) = ret o := rfl
theorem val_atE {i : Nat} {ks : List PyData} : val (.at i ks) = bnd (slot i) fun o => bnd (opt (if ks.isEmpty then frz o else none)) fun d => bnd (setSlot i (.fz d)) fun _ => ret (.fz d) := rfl
theorem valD_def {r : Rv} : valD r = bnd (val r) fun o => opt (frz o) := rfl
theorem see_fz {d : PyData} : see (.fz d) = ret d := rfl
theorem see_at {i : Nat} {ks : List PyData} : see (.at i ks) = bnd (slotAt i ks) fun o => opt (frz o) := rfl
theorem keep_fz {d : PyData} : keep (.fz d) = ret d := rfl
theorem keep_at {i : Nat} {ks : List PyData} : keep (.at i ks) = bnd (slotAt i ks) fun o => opt (shal o) := rfl
theorem give_fz {d : PyData} : give (.fz d) = ret d := rfl
theorem give_at {i : Nat} {ks : List PyData} : give (.at i ks) = valD (.at i ks) := rfl
theorem slotAt_def {i : Nat} {ks : List PyData} : slotAt i ks = bnd (slot i) fun o => opt (getAt o ks) := rfl
theorem varK_fz {i : Nat} {d : PyData} : varK i (.fz d) = ret (.tmp (.fz d)) := rfl
theorem varK_lst {i : Nat} {os : List OD} : varK i (.lst os) = ret (.at i []) := rfl
theorem idxK_fz {d k : PyData} : idxK (.fz d) k = bnd (opt (idxD d k)) fun x => ret (.tmp (.fz x)) := rfl
theorem idxK_at {j : Nat} {ks : List PyData} {k : PyData} : idxK (.at j ks) k = bnd (slotAt j ks) fun o => nodeK j ks k o := rfl
theorem nodeK_fz {j : Nat} {ks : List PyData} {k d : PyData} : nodeK j ks k (.fz d) = bnd (opt (idxD d k)) fun x => ret (.tmp (.fz x)) := rfl
theorem nodeK_lst {j : Nat} {ks : List PyData} {k : PyData} {os : List OD} : nodeK j ks k (.lst os) = bnd (opt (kid (.lst os) k)) fun x => kidK j ks k x := rfl
theorem kidK_fz {j : Nat} {ks : List PyData} {k d : PyData} : kidK j ks k (.fz d) = ret (.tmp (.fz d)) := rfl
theorem kidK_lst {j : Nat} {ks : List PyData} {k : PyData} {os : List OD} : kidK j ks k (.lst os) = ret (.at j (ks ++ [k])) := rfl
theorem seeAll_nil : seeAll [] = ret [] := rfl
theorem seeAll_cons {p : Opd} {ps : List Opd} : seeAll (p :: ps) = bnd (see p) fun d => bnd (seeAll ps) fun ds => ret (d :: ds) := rfl
theorem keepAll_nil : keepAll [] = ret [] := rfl
theorem keepAll_cons {p : Opd} {ps : List Opd} : keepAll (p :: ps) = bnd (keep p) fun d => bnd (keepAll ps) fun ds => ret (d :: ds) := rfl
theorem giveAll_nil : giveAll [] = ret [] := rfl
theorem giveAll_cons {p : Opd} {ps : List Opd} : giveAll (p :: ps) = bnd (give p) fun d => bnd (giveAll ps) fun ds => ret (d :: ds) := rfl
theorem leave_tmp {o : OD} : leave (.tmp o) = ret o := rfl
theorem leave_at {i : Nat} {ks : List PyData} : leave (.at i ks) = bnd (slot i) fun o => if ks.isEmpty then (fun e => .ok o (e.set i none)) else bad := rfl
theorem isLst_at {i : Nat} {ks : List PyData} : isLst (.at i ks) = bnd (slotAt i ks) fun o => match o with | .lst _ => ret () | _ => bad := rfl
theorem isAt_at {i : Nat} {ks : List PyData} : isAt (.at i ks) = ret () := rfl
theorem putAt_at {i : Nat} {ks : List PyData} {k d : PyData} : putAt (.at i ks) k d = bnd (slot i) fun r => bnd (opt (getAt r ks)) fun o => bnd (opt (putD o k d)) fun o' => bnd (opt (setAt r ks o')) fun r' => setSlot i r' := rfl
theorem tgs_var {i : Nat} {d : PyData} : tgs (.var i) d = setSlot i (.fz d) := rfl
theorem forL_nil {b : PyData → M Fl} : forL b [] = ret .nx := rfl
theorem forL_cons {b : PyData → M Fl} {d : PyData} {ds : List PyData} : forL b (d :: ds) = bnd (b d) fun f => match f with | .nx => forL b ds | .ct => forL b ds | .bk => ret .nx | .rt o => ret (.rt o) := rfl
theorem boolK_t {y n : M Rv} : boolK y n (.bool true) = y := rfl
theorem boolK_f {y n : M Rv} : boolK y n (.bool false) = n := rfl
theorem calling_none {c : CallF} {f : Nat} {ps : List Opd} : calling c none f ps = bnd (lend none ps) fun os => match c f os with | .ok o _ => ret o | .exn x => fun e => .exn x e | .bad => bad := rfl
theorem calling_some {c : CallF} {m f : Nat} {ps : List Opd} : calling c (some m) f ps = bnd (lend (some m) ps) fun os => match c f os with | .ok o out => bnd (opt ps[m]?) fun p => bnd (putBack p out) fun _ => ret o | .exn _ => bad | .bad => bad := rfl
theorem lend_noneE {ps : List Opd} : lend none ps = bnd (giveAll ps) fun ds => ret (ds.map .fz) := by cases ps <;> rfl
theorem lend_zero {p : Opd} {ps : List Opd} : lend (some 0) (p :: ps) = bnd (giveAll ps) fun ds => bnd (lentK p) fun o => ret (o :: ds.map .fz) := rfl
theorem lend_succ {n : Nat} {p : Opd} {ps : List Opd} : lend (some (n + 1)) (p :: ps) = bnd (give p) fun d => bnd (lend (some n) ps) fun os => ret (.fz d :: os) := rfl
theorem lentK_fz {d : PyData} : lentK (.fz d) = ret (.fz d) := rfl
theorem lentK_at {i : Nat} {ks : List PyData} : lentK (.at i ks) = slotAt i ks := rfl
theorem putBack_at {i : Nat} {ks : List PyData} {o : OD} : putBack (.at i ks) (some o) = bnd (slot i) fun r => bnd (opt (setAt r ks o)) fun r' => setSlot i r' := rfl
theorem wpS {i : Nat} {e : Env} {P : OD → Env → Prop} : wp (slot i) e P = match e[i]? with | some (some o) => P o e | _ => False := by
  unfold wp slot
  cases e[i]? with
  | none => rfl
  | some x => cases x <;> rfl
theorem wpSet {i : Nat} {o : OD} {e : Env} {P : Unit → Env → Prop} : wp (setSlot i o) e P = (i < e.length ∧ P () (e.set i (some o))) := by
  unfold wp setSlot
  by_cases h : i < e.length
  · rw [if_pos h]; simp [h]
  · rw [if_neg h]; simp [h]
theorem wpOpt {α : Type} {o : Option α} {e : Env} {P : α → Env → Prop} : wp (opt o) e P = match o with | some a => P a e | none => False := by cases o <;> rfl
theorem wpIte {α : Type} {k : Prop} [Decidable k] {m n : M α} {e : Env} {P : α → Env → Prop} : wp (if k then m else n) e P = if k then wp m e P else wp n e P := by split <;> rfl
theorem wpLeave {o : OD} {i : Nat} {e : Env} {P : OD → Env → Prop} : wp (fun e => Out.ok o (e.set i none)) e P = P o (e.set i none) := rfl
/-- a def's call, by its body -/
theorem call_fn {G : Nat → Option Fn} {n g : Nat} {fn : Fn} {os : List OD} (h : G g = some fn) (hl : os.length = fn.np) : callN G (n + 1) g os = behind fn (exs (fun g => (G g).bind (·.mu)) (callN G n) fn.body (os.map some ++ List.replicate (fn.ns - fn.np) none)) := by
  show (match G g with | none => CRes.bad | some fn => if os.length = fn.np then behind fn (exs (fun g => (G g).bind (·.mu)) (callN G n) fn.body (os.map some ++ List.replicate (fn.ns - fn.np) none)) else .bad) = _
  rw [h]
  simp only
  rw [if_pos hl]
theorem behind_wp {fn : Fn} {m : M Fl} {e : Env} {P : CRes → Prop} (h : wp m e fun f e' => P (behind fn (.ok f e'))) : P (behind fn (m e)) := by
  obtain ⟨a, e', z, p⟩ := wp_ok h
  rw [z]; exact p
end HW
end

section
set_option linter.all false
set_option maxHeartbeats 4000000
/-! # Plain: data of ints; the deck -/
namespace HW
open PySem
def intsL (cs : List Int) : List PyData := cs.map .int
theorem frz_fzs (ds : List PyData) : frz (.lst (ds.map .fz)) = some (.list ds) := by
  have : frzs (ds.map OD.fz) = some ds := by
    induction ds with
    | nil => rfl
    | cons d ds ih =>
      show (frz (.fz d)).bind (fun d => (frzs (ds.map OD.fz)).map fun ds => d :: ds) = _
      rw [ih]; rfl
  show (frzs (ds.map OD.fz)).map PyData.list = _
  rw [this]; rfl
theorem allFz_fzs (ds : List PyData) : allFz (ds.map .fz) = some ds := by
  induction ds with
  | nil => rfl
  | cons d ds ih =>
    show (isFz (.fz d)).bind (fun d => (allFz (ds.map OD.fz)).map fun ds => d :: ds) = _
    rw [ih]; rfl
theorem shal_fzs (ds : List PyData) : shal (.lst (ds.map .fz)) = some (.list ds) := by
  show (allFz (ds.map OD.fz)).map PyData.list = _
  rw [allFz_fzs]; rfl
theorem frz_fzs' (ds : List PyData) : frz (fzs ds) = some (.list ds) := frz_fzs ds
theorem shaped_ints (cs : List Int) : SeqAt.shaped (.list (intsL cs)) = true := by
  have h1 : PyData.canLayAll0 (intsL cs) = true := by
    induction cs with
    | nil => rfl
    | cons c cs ih => show (true && PyData.canLayAll0 (intsL cs)) = true; rw [ih]; rfl
  have h2 : PyData.depthAll (intsL cs) = 0 := by
    induction cs with
    | nil => rfl
    | cons c cs ih => show max 0 (PyData.depthAll (intsL cs)) = 0; rw [ih (by exact (Bool.and_eq_true_iff.mp (show (true && PyData.canLayAll0 (intsL cs)) = true from h1)).2)]; rfl
  show (PyData.canLayAll0 (intsL cs) && decide (PyData.depthAll (intsL cs) + 1 ≤ 64)) = true
  rw [h1, h2]; rfl
theorem eqv_nil (cs : List Int) : PyData.eqv (.list (intsL cs)) (.list []) = cs.isEmpty := by cases cs <;> rfl
/-- the deck of the laws -/
def dk (cs : List Int) (m t : Int) : OD := .lst [.lst ((intsL cs).map .fz), .fz (.int m), .fz (.int t)]
theorem kid0 {cs : List Int} {m t : Int} : kid (dk cs m t) (.int 0) = some (.lst ((intsL cs).map .fz)) := rfl
theorem kid1 {cs : List Int} {m t : Int} : kid (dk cs m t) (.int 1) = some (.fz (.int m)) := rfl
theorem kid2 {cs : List Int} {m t : Int} : kid (dk cs m t) (.int 2) = some (.fz (.int t)) := rfl
theorem frz_fz {d : PyData} : frz (.fz d) = some d := rfl
theorem shal_fz {d : PyData} : shal (.fz d) = some d := rfl
theorem frz_nil : frz (.lst []) = some (.list []) := rfl
theorem shal_nil : shal (.lst []) = some (.list []) := rfl
theorem frz_ints {cs : List Int} : frz (.lst ((intsL cs).map .fz)) = some (.list (intsL cs)) := frz_fzs _
theorem shal_ints {cs : List Int} : shal (.lst ((intsL cs).map .fz)) = some (.list (intsL cs)) := shal_fzs _
theorem varK_dk {i : Nat} {cs : List Int} {m t : Int} : varK i (dk cs m t) = ret (.at i []) := rfl
theorem nodeK_dk {j : Nat} {ks : List PyData} {k : PyData} {cs : List Int} {m t : Int} : nodeK j ks k (dk cs m t) = bnd (opt (kid (dk cs m t) k)) fun x => kidK j ks k x := rfl
theorem getAt_nil {o : OD} : getAt o [] = some o := rfl
theorem getAt_dk0 {cs : List Int} {m t : Int} : getAt (dk cs m t) [.int 0] = some (.lst ((intsL cs).map .fz)) := rfl
theorem setAt_nil {o p : OD} : setAt o [] p = some p := rfl
theorem setAt_dk0 {cs cs' : List Int} {m t : Int} : setAt (dk cs m t) [.int 0] (.lst ((intsL cs').map .fz)) = some (dk cs' m t) := rfl
theorem putD_dk2 {cs : List Int} {m t t' : Int} : putD (dk cs m t) (.int 2) (.int t') = some (dk cs m t') := rfl
theorem negK_int {i : Int} : negK (.int i) = ret (.tmp (.fz (.int (-i)))) := rfl
theorem notK_bool {b : Bool} : notK (.bool b) = ret (.tmp (.fz (.bool (!b)))) := rfl
theorem cmp_eqI {i j : Int} : cmpD .eq (.int i) (.int j) = some (decide (i = j)) := rfl
theorem cmp_neI {i j : Int} : cmpD .ne (.int i) (.int j) = some (!decide (i = j)) := rfl
theorem cmp_ltI {i j : Int} : cmpD .lt (.int i) (.int j) = some (decide (i < j)) := rfl
theorem cmp_leI {i j : Int} : cmpD .le (.int i) (.int j) = some (decide (i ≤ j)) := rfl
theorem cmp_gtI {i j : Int} : cmpD .gt (.int i) (.int j) = some (decide (j < i)) := rfl
theorem cmp_geI {i j : Int} : cmpD .ge (.int i) (.int j) = some (decide (j ≤ i)) := rfl
theorem cmp_neN {cs : List Int} : cmpD .ne (.list (intsL cs)) (.list []) = some (!cs.isEmpty) := by
  show (if SeqAt.shaped (.list (intsL cs)) && SeqAt.shaped (.list []) then some (PyData.eqv (.list (intsL cs)) (.list [])) else none).map not = _
  rw [shaped_ints, eqv_nil]; rfl
theorem tru_bool {b : Bool} : truD (.bool b) = some b := rfl
theorem add_int {i j : Int} : binD .add (.int i) (.int j) = some (.fz (.int (i + j))) := rfl
theorem sub_int {i j : Int} : binD .sub (.int i) (.int j) = some (.fz (.int (i - j))) := rfl
theorem mulOk_r {i j : Int} (h1 : -(2 ^ 64) < j) (h2 : j < 2 ^ 64) : mulOk i j = true := by
  unfold mulOk
  rw [decide_eq_true h1, decide_eq_true h2]; simp
theorem mulOk_l {i j : Int} (h1 : -(2 ^ 64) < i) (h2 : i < 2 ^ 64) : mulOk i j = true := by
  unfold mulOk
  rw [decide_eq_true h1, decide_eq_true h2]; simp
theorem mul_int {i j : Int} (h : mulOk i j = true) : binD .mul (.int i) (.int j) = some (.fz (.int (i * j))) := by
  show ((if mulOk i j then some (i * j) else none).map fun k => OD.fz (.int k)) = _
  rw [if_pos h]; rfl
theorem mod_int {i j : Int} (h : 0 < j) : binD .mod (.int i) (.int j) = some (.fz (.int (i % j))) := by
  show ((if 0 < j then some (i % j) else none).map fun k => OD.fz (.int k)) = _
  rw [if_pos h]; rfl
theorem div_int {i j : Int} (h : 0 < j) (hb : j.natAbs.log2 < 9000) : binD .fdiv (.int i) (.int j) = some (.fz (.int (i / j))) := by
  show ((if 0 < j ∧ j.natAbs.log2 < 9000 then some (i / j) else none).map fun k => OD.fz (.int k)) = _
  rw [if_pos ⟨h, hb⟩]; rfl
theorem bi_intI {i : Int} : biD .int [.int i] = some (.fz (.int i)) := rfl
theorem bi_intB {b : Bool} : biD .int [.bool b] = some (.fz (.int (if b then 1 else 0))) := rfl
theorem bi_absI {i : Int} : biD .abs [.int i] = some (.fz (.int (if i < 0 then -i else i))) := rfl
theorem biArgs_see {b : Bi} {ps : List Opd} (h : b.shares = false) : biArgs b ps = seeAll ps := by unfold biArgs; rw [h]; rfl
theorem rngK_2 : rngK [.int 2] = ret [.int 0, .int 1] := rfl
theorem limE : lim = 16777216 := rfl
theorem wpBoolK {y n : M Rv} {b : Bool} {e : Env} {P : Rv → Env → Prop} : wp (boolK y n (.bool b)) e P = if b = true then wp y e P else wp n e P := by cases b <;> rfl
theorem behind_rt0 {np ns : Nat} {body : List S} {o p : OD} {e : Env} : behind ⟨some 0, np, ns, body⟩ (.ok (.rt o) (some p :: e)) = .ok o (some p) := rfl
theorem behind_rtN {np ns : Nat} {body : List S} {o : OD} {e : Env} : behind ⟨none, np, ns, body⟩ (.ok (.rt o) e) = .ok o none := rfl
theorem modA (x y : Int) : mulOk (x % 4294967291) y = true := mulOk_l (by have := Int.emod_nonneg x (show (4294967291 : Int) ≠ 0 by decide); omega) (by have := Int.emod_lt_of_pos x (show (0 : Int) < 4294967291 by decide); omega)
theorem modB (x y : Int) : mulOk (x % 4294967279) y = true := mulOk_l (by have := Int.emod_nonneg x (show (4294967279 : Int) ≠ 0 by decide); omega) (by have := Int.emod_lt_of_pos x (show (0 : Int) < 4294967279 by decide); omega)
theorem tgs_v {i : Nat} {d : PyData} : tgs (.var i) d = setSlot i (.fz d) := rfl
end HW
end

section
set_option linter.all false
namespace HW
open PySem
-- column_of state k found spot word
abbrev i_column_of : Nat := 0
-- columns_of w state k
abbrev i_columns_of : Nat := 1
-- state_of n columns found spot k column
abbrev i_state_of : Nat := 2
-- low_part state k top word
abbrev i_low_part : Nat := 3
-- depth w state k
abbrev i_depth : Nat := 4
-- agree w one other word mate
abbrev i_agree : Nat := 5
-- halved state k word
abbrev i_halved : Nat := 6
-- _law_deck script cells mixed cell
abbrev i_law_deck : Nat := 7
-- _law_draw deck many cell found turn
abbrev i_law_draw : Nat := 8
-- _law_pick deck row
abbrev i_law_pick : Nat := 9
-- _law_word deck w way found turn
abbrev i_law_word : Nat := 10
-- _law_state deck n w spot
abbrev i_law_state : Nat := 11
-- _law_bits word w found rest level
abbrev i_law_bits : Nat := 12
-- _law_columns state w rows found level column spot row word
abbrev i_law_columns : Nat := 13
-- _law_shared one other level column
abbrev i_law_shared : Nat := 14
-- _law_near deck state w level high own more
abbrev i_law_near : Nat := 15
-- _law_is_right deck n w state other own theirs k column low high told again whole shared first word lowest highest
abbrev i_law_is_right : Nat := 16
-- law script deck turn n w state other before columns word level
abbrev i_law : Nat := 17
-- changed w state deed times word i fresh
abbrev i_changed : Nat := 18
-- done w state deed
abbrev i_done : Nat := 19
-- undone w state deed
abbrev i_undone : Nat := 20
-- _law_mixed deck row left found
abbrev i_law_mixed : Nat := 21
-- _law_deed deck n words word places
abbrev i_law_deed : Nat := 22
-- _law_sum w one other carried found level first second many
abbrev i_law_sum : Nat := 23
-- _law_turned w one other found level first second
abbrev i_law_turned : Nat := 24
-- _law_shared w one other found level first second
abbrev i_law_shared_2 : Nat := 25
-- _law_due w state deed is_back word spot own more
abbrev i_law_due : Nat := 26
-- _law_is_right deck n w state deed before due
abbrev i_law_is_right_2 : Nat := 27
-- law script deck turn n w state deeds here deed
abbrev i_law_2 : Nat := 28
def f_column_of : Fn := ⟨none, 2, 5, [
    .set 2 (.lit (.int 0)),
    .fr (.tup [(.var 3), (.var 4)]) (.enm (.var 0)) [.set 2 (.bin .bor (.var 2) (.bin .shl (.bin .band (.bin .shr (.var 4) (.var 1)) (.lit (.int 1))) (.var 3)))],
    .rt (.var 2)]⟩
def f_columns_of : Fn := ⟨none, 2, 3, [
    .rt (.bi .tuple [(.comp (.var 2) (.rng [(.var 0)]) [] (.call i_column_of [(.var 1), (.var 2)]) [2])])]⟩
def f_state_of : Fn := ⟨none, 2, 6, [
    .set 2 (.lst []),
    .fr (.var 3) (.rng [(.var 0)]) [.expr (.meth .append (.var 2) [(.bi .sum [(.comp (.tup [(.var 4), (.var 5)]) (.enm (.var 1)) [] (.bin .shl (.bin .band (.bin .shr (.var 5) (.var 3)) (.lit (.int 1))) (.var 4)) [4, 5])])])],
    .rt (.bi .tuple [(.var 2)])]⟩
def f_low_part : Fn := ⟨none, 2, 4, [
    .set 2 (.bin .sub (.bin .shl (.lit (.int 1)) (.var 1)) (.lit (.int 1))),
    .rt (.bi .tuple [(.comp (.var 3) (.of (.var 0)) [] (.bin .band (.var 3) (.var 2)) [3])])]⟩
def f_depth : Fn := ⟨none, 2, 3, [
    .fr (.var 2) (.rng [(.var 0)]) [.ite (.cmp .ne (.call i_column_of [(.var 1), (.var 2)]) (.lit (.int 0))) [.rt (.var 2)] []],
    .rt (.var 0)]⟩
def f_agree : Fn := ⟨none, 3, 5, [
    .rt (.call i_depth [(.var 0), (.bi .tuple [(.comp (.tup [(.var 3), (.var 4)]) (.zip [(.var 1), (.var 2)]) [] (.bin .bxor (.var 3) (.var 4)) [3, 4])])])]⟩
def f_halved : Fn := ⟨none, 2, 3, [
    .rt (.bi .tuple [(.comp (.var 2) (.of (.var 0)) [] (.bin .shr (.var 2) (.var 1)) [2])])]⟩
def f_law_deck : Fn := ⟨none, 1, 4, [
    .par [(.var 1), (.var 2)] [(.comp (.var 3) (.of (.slc (.var 0) [] [(.lit (.int 63))])) [] (.bin .add (.bin .mul (.lit (.int 2)) (.bi .abs [(.var 3)])) (.bi .int [(.cmp .lt (.var 3) (.lit (.int 0)))])) [3]), (.bin .add (.lit (.int 90001)) (.bi .len [(.var 0)]))],
    .fr (.var 3) (.of (.var 1)) [.set 2 (.bin .mod (.bi .int [(.bin .add (.bin .add (.bin .mul (.var 2) (.lit (.int 16807))) (.var 3)) (.lit (.int 3)))]) (.lit (.int 4294967291)))],
    .rt (.lst [(.comp (.var 3) (.of (.var 1)) [(.cmp .gt (.var 3) (.bin .pow (.lit (.int 10)) (.lit (.int 15))))] (.var 3) [3]), (.var 2), (.lit (.int 0))])]⟩
def f_law_draw : Fn := ⟨some 0, 2, 5, [
    .ite (.and (.cmp .ne (.idx (.var 0) (.lit (.int 0))) (.lst [])) (.cmp .gt (.var 1) (.lit (.int 1)))) [.set 2 (.meth .popAt (.idx (.var 0) (.lit (.int 0))) [(.lit (.int 0))]), .ite (.cmp .ge (.var 2) (.var 1)) [.expr (.meth .insert (.idx (.var 0) (.lit (.int 0))) [(.lit (.int 0)), (.bin .fdiv (.var 2) (.var 1))])] [], .rt (.bin .mod (.bi .int [(.var 2)]) (.var 1))] [],
    .put (.var 0) (.lit (.int 2)) (.bin .add (.idx (.var 0) (.lit (.int 2))) (.lit (.int 1))),
    .set 3 (.bin .mod (.bi .int [(.bin .add (.idx (.var 0) (.lit (.int 1))) (.bin .mul (.lit (.int 2654435761)) (.idx (.var 0) (.lit (.int 2)))))]) (.lit (.int 4294967291))),
    .fr (.var 4) (.rng [(.lit (.int 2))]) [.set 3 (.bin .mod (.bi .int [(.bin .add (.bin .add (.bin .add (.bin .mul (.var 3) (.var 3)) (.bin .mul (.lit (.int 48271)) (.idx (.var 0) (.lit (.int 2))))) (.lit (.int 11))) (.var 4))]) (.lit (.int 4294967279)))],
    .rt (.bin .mod (.bi .int [(.bin .fdiv (.var 3) (.lit (.int 256)))]) (.var 1))]⟩
def f_law_pick : Fn := ⟨some 0, 2, 2, [
    .rt (.idx (.var 1) (.call i_law_draw [(.var 0), (.bi .len [(.var 1)])]))]⟩
def f_law_word : Fn := ⟨some 0, 2, 5, [
    .set 2 (.call i_law_draw [(.var 0), (.lit (.int 9))]),
    .ite (.cmp .lt (.var 2) (.lit (.int 4))) [.rt (.bin .mod (.idx (.lst [(.lit (.int 0)), (.lit (.int 1)), (.bin .sub (.bin .shl (.lit (.int 1)) (.var 1)) (.lit (.int 1))), (.bin .shl (.lit (.int 1)) (.bin .sub (.var 1) (.lit (.int 1))))]) (.var 2)) (.bin .shl (.lit (.int 1)) (.var 1)))] [],
    .ite (.cmp .eq (.var 2) (.lit (.int 4))) [.rt (.bin .shl (.lit (.int 1)) (.call i_law_draw [(.var 0), (.var 1)]))] [],
    .set 3 (.lit (.int 0)),
    .fr (.var 4) (.rng [(.lit (.int 5))]) [.set 3 (.bin .add (.bin .mul (.var 3) (.lit (.int 65536))) (.call i_law_draw [(.var 0), (.lit (.int 65536))]))],
    .rt (.bin .mod (.var 3) (.bin .shl (.lit (.int 1)) (.var 1)))]⟩
def f_law_state : Fn := ⟨some 0, 3, 4, [
    .rt (.bi .tuple [(.comp (.var 3) (.rng [(.var 1)]) [] (.call i_law_word [(.var 0), (.var 2)]) [3])])]⟩
def f_law_bits : Fn := ⟨none, 2, 5, [
    .par [(.var 2), (.var 3)] [(.lst []), (.var 0)],
    .fr (.var 4) (.rng [(.var 1)]) [.expr (.meth .append (.var 2) [(.bin .mod (.bi .int [(.var 3)]) (.lit (.int 2)))]), .set 3 (.bin .fdiv (.var 3) (.lit (.int 2)))],
    .rt (.var 2)]⟩
def f_law_columns : Fn := ⟨none, 2, 9, [
    .set 2 (.comp (.var 8) (.of (.var 0)) [] (.call i_law_bits [(.var 8), (.var 1)]) [8]),
    .set 3 (.lst []),
    .fr (.var 4) (.rng [(.var 1)]) [.set 5 (.lit (.int 0)), .fr (.tup [(.var 6), (.var 7)]) (.enm (.var 2)) [.set 5 (.bin .add (.var 5) (.bin .mul (.idx (.var 7) (.var 4)) (.bin .shl (.lit (.int 1)) (.var 6))))], .expr (.meth .append (.var 3) [(.var 5)])],
    .rt (.var 3)]⟩
def f_law_shared : Fn := ⟨none, 2, 4, [
    .fr (.tup [(.var 2), (.var 3)]) (.enm (.var 0)) [.ite (.cmp .ne (.idx (.var 1) (.var 2)) (.var 3)) [.rt (.var 2)] []],
    .rt (.bi .len [(.var 0)])]⟩
def f_law_near : Fn := ⟨some 0, 3, 7, [
    .set 3 (.call i_law_draw [(.var 0), (.bin .add (.var 2) (.lit (.int 1)))]),
    .set 4 (.call i_law_state [(.var 0), (.bi .len [(.var 1)]), (.var 2)]),
    .rt (.bi .tuple [(.comp (.tup [(.var 5), (.var 6)]) (.zip [(.var 1), (.var 4)]) [] (.bin .add (.bin .mod (.bi .int [(.var 5)]) (.bin .shl (.lit (.int 1)) (.var 3))) (.bin .mul (.bin .fdiv (.var 6) (.bin .shl (.lit (.int 1)) (.var 3))) (.bin .shl (.lit (.int 1)) (.var 3)))) [5, 6])])]⟩
def f_law_is_right : Fn := ⟨some 0, 5, 19, [
    .par [(.var 5), (.var 6)] [(.call i_law_columns [(.var 3), (.var 2)]), (.call i_law_columns [(.var 4), (.var 2)])],
    .set 7 (.call i_law_pick [(.var 0), (.lst [(.lit (.int 0)), (.lit (.int 1)), (.bin .sub (.var 2) (.lit (.int 1))), (.var 2), (.lit (.int 64)), (.call i_law_draw [(.var 0), (.bin .add (.var 2) (.lit (.int 1)))]), (.call i_law_draw [(.var 0), (.lit (.int 65))])])]),
    .set 8 (.ite (.cmp .lt (.var 7) (.var 2)) (.idx (.var 5) (.var 7)) (.lit (.int 0))),
    .par [(.var 9), (.var 10)] [(.comp (.var 16) (.of (.var 3)) [] (.bin .mod (.bi .int [(.var 16)]) (.bin .shl (.lit (.int 1)) (.var 7))) [16]), (.comp (.var 16) (.of (.var 3)) [] (.bin .fdiv (.var 16) (.bin .shl (.lit (.int 1)) (.var 7))) [16])],
    .set 11 (.lst [(.call i_column_of [(.var 3), (.var 7)]), (.call i_columns_of [(.var 2), (.var 3)]), (.call i_state_of [(.var 1), (.bi .tuple [(.var 5)])]), (.call i_low_part [(.var 3), (.var 7)]), (.call i_halved [(.var 3), (.var 7)])]),
    .ite (.cmp .ne (.bi .repr [(.var 11)]) (.bi .repr [(.lst [(.var 8), (.bi .tuple [(.var 5)]), (.var 3), (.bi .tuple [(.var 9)]), (.bi .tuple [(.var 10)])])])) [.rt (.lit (.bool false))] [],
    .set 12 (.lst [(.kcall i_column_of [(.var 7), (.var 3)] [1, 0]), (.kcall i_columns_of [(.var 3), (.var 2)] [1, 0]), (.kcall i_state_of [(.bi .tuple [(.var 5)]), (.var 1)] [1, 0])]),
    .set 12 (.bin .add (.var 12) (.lst [(.kcall i_low_part [(.var 7), (.var 3)] [1, 0]), (.kcall i_halved [(.var 7), (.var 3)] [1, 0])])),
    .set 13 (.comp (.tup [(.var 17), (.var 18)]) (.zip [(.idx (.var 11) (.lit (.int 3))), (.idx (.var 11) (.lit (.int 4)))]) [] (.bin .add (.var 17) (.bin .mul (.var 18) (.bin .shl (.lit (.int 1)) (.var 7)))) [17, 18]),
    .ite (.or (.cmp .ne (.bi .repr [(.var 12)]) (.bi .repr [(.var 11)])) (.cmp .ne (.var 13) (.bi .list [(.var 3)]))) [.rt (.lit (.bool false))] [],
    .par [(.var 14), (.var 15)] [(.call i_law_shared [(.var 5), (.var 6)]), (.call i_law_shared [(.var 5), (.bin .mul (.lst [(.lit (.int 0))]) (.var 2))])],
    .set 11 (.lst [(.call i_agree [(.var 2), (.var 3), (.var 4)]), (.kcall i_agree [(.var 3), (.var 4), (.var 2)] [2, 1, 0]), (.call i_agree [(.var 2), (.var 3), (.var 3)]), (.call i_depth [(.var 2), (.var 3)])]),
    .ite (.or (.cmp .ne (.bi .repr [(.var 11)]) (.bi .repr [(.lst [(.var 14), (.var 14), (.var 2), (.var 15)])])) (.cmp .ne (.bi .repr [(.kcall i_depth [(.var 3), (.var 2)] [1, 0])]) (.bi .repr [(.var 15)]))) [.rt (.lit (.bool false))] [],
    .rt (.or (.cmp .eq (.var 14) (.var 2)) (.cmp .ne (.call i_column_of [(.var 3), (.var 14)]) (.call i_column_of [(.var 4), (.var 14)])))]⟩
def f_law : Fn := ⟨none, 1, 11, [
    .set 1 (.call i_law_deck [(.var 0)]),
    .fr (.var 2) (.rng [(.lit (.int 7))]) [.par [(.var 3), (.var 4)] [(.bin .add (.lit (.int 3)) (.call i_law_draw [(.var 1), (.lit (.int 6))])), (.call i_law_pick [(.var 1), (.lst [(.lit (.int 1)), (.lit (.int 1)), (.lit (.int 2)), (.lit (.int 3)), (.lit (.int 5)), (.lit (.int 8)), (.lit (.int 16)), (.lit (.int 33)), (.lit (.int 64))])])], .set 5 (.call i_law_state [(.var 1), (.var 3), (.var 4)]), .ite (.cmp .eq (.var 2) (.lit (.int 2))) [.set 5 (.bi .tuple [(.comp (.var 9) (.of (.var 5)) [] (.bin .mod (.bi .int [(.bin .mul (.var 9) (.bin .shl (.lit (.int 1)) (.call i_law_draw [(.var 1), (.bin .add (.var 4) (.lit (.int 1)))])))]) (.bin .shl (.lit (.int 1)) (.var 4))) [9])])] [], .ite (.cmp .eq (.var 2) (.lit (.int 3))) [.set 5 (.bin .mul (.tup [(.lit (.int 0))]) (.var 3))] [], .set 6 (.ite (.cmp .ne (.var 2) (.lit (.int 4))) (.call i_law_near [(.var 1), (.var 5), (.var 4)]) (.call i_law_state [(.var 1), (.var 3), (.var 4)])), .set 7 (.bi .repr [(.lst [(.var 5), (.var 6)])]), .ite (.or (.not (.call i_law_is_right [(.var 1), (.var 3), (.var 4), (.var 5), (.var 6)])) (.not (.call i_law_is_right [(.var 1), (.var 3), (.var 4), (.var 6), (.var 5)]))) [.rt (.lit (.bool false))] [], .set 8 (.bi .tuple [(.comp (.var 10) (.rng [(.var 4)]) [] (.call i_law_draw [(.var 1), (.bin .shl (.lit (.int 1)) (.var 3))]) [10])]), .ite (.or (.cmp .ne (.bi .repr [(.call i_columns_of [(.var 4), (.call i_state_of [(.var 3), (.var 8)])])]) (.bi .repr [(.var 8)])) (.cmp .ne (.bi .repr [(.lst [(.var 5), (.var 6)])]) (.var 7))) [.rt (.lit (.bool false))] []],
    .rt (.lit (.bool true))]⟩
def f_changed : Fn := ⟨none, 4, 7, [
    .par [(.var 4), (.var 5)] [(.idx (.var 2) (.lit (.int 0))), (.idx (.var 2) (.lit (.int 1)))],
    .ite (.cmp .eq (.var 4) (.lit (.str (Str.ofString "xor")))) [.set 6 (.bin .bxor (.idx (.var 1) (.var 5)) (.idx (.var 1) (.idx (.var 2) (.lit (.int 2)))))] [.ite (.cmp .eq (.var 4) (.lit (.str (Str.ofString "and")))) [.set 6 (.bin .bxor (.idx (.var 1) (.var 5)) (.bin .band (.idx (.var 1) (.idx (.var 2) (.lit (.int 2)))) (.idx (.var 1) (.idx (.var 2) (.lit (.int 3))))))] [.set 6 (.bin .mod (.bin .add (.idx (.var 1) (.var 5)) (.bin .mul (.var 3) (.ite (.cmp .eq (.var 4) (.lit (.str (Str.ofString "add")))) (.idx (.var 1) (.idx (.var 2) (.lit (.int 2)))) (.lit (.int 1))))) (.bin .shl (.lit (.int 1)) (.var 0)))]],
    .rt (.bin .add (.bin .add (.slc (.var 1) [] [(.var 5)]) (.tup [(.var 6)])) (.slc (.var 1) [(.bin .add (.var 5) (.lit (.int 1)))] []))]⟩
def f_done : Fn := ⟨none, 3, 3, [
    .rt (.call i_changed [(.var 0), (.var 1), (.var 2), (.lit (.int 1))])]⟩
def f_undone : Fn := ⟨none, 3, 3, [
    .rt (.call i_changed [(.var 0), (.var 1), (.var 2), (.neg (.lit (.int 1)))])]⟩
def f_law_mixed : Fn := ⟨some 0, 2, 4, [
    .par [(.var 2), (.var 3)] [(.bi .list [(.var 1)]), (.lst [])],
    .whl (.cmp .ne (.var 2) (.lst [])) [.expr (.meth .append (.var 3) [(.meth .popAt (.var 2) [(.call i_law_draw [(.var 0), (.bi .len [(.var 2)])])])])],
    .rt (.var 3)]⟩
def f_law_deed : Fn := ⟨some 0, 3, 5, [
    .par [(.var 3), (.var 4)] [(.call i_law_pick [(.var 0), (.var 2)]), (.call i_law_mixed [(.var 0), (.lrg false (.var 1))])],
    .ite (.cmp .eq (.var 3) (.lit (.str (Str.ofString "one")))) [.rt (.tup [(.lit (.str (Str.ofString "one"))), (.idx (.var 4) (.lit (.int 0)))])] [],
    .ite (.cmp .eq (.var 3) (.lit (.str (Str.ofString "and")))) [.rt (.tup [(.lit (.str (Str.ofString "and"))), (.idx (.var 4) (.lit (.int 0))), (.bi .minL [(.slc (.var 4) [(.lit (.int 1))] [(.lit (.int 3))])]), (.bi .maxL [(.slc (.var 4) [(.lit (.int 1))] [(.lit (.int 3))])])])] [],
    .rt (.tup [(.var 3), (.idx (.var 4) (.lit (.int 0))), (.idx (.var 4) (.lit (.int 1)))])]⟩
def f_law_sum : Fn := ⟨none, 4, 9, [
    .set 4 (.lit (.int 0)),
    .fr (.var 5) (.rng [(.var 0)]) [.par [(.var 6), (.var 7)] [(.bin .mod (.bi .int [(.bin .fdiv (.var 1) (.bin .shl (.lit (.int 1)) (.var 5)))]) (.lit (.int 2))), (.bin .mod (.bi .int [(.bin .fdiv (.var 2) (.bin .shl (.lit (.int 1)) (.var 5)))]) (.lit (.int 2)))], .set 8 (.bin .add (.bin .add (.var 6) (.var 7)) (.var 3)), .set 4 (.bin .add (.var 4) (.bin .mul (.bin .mod (.bi .int [(.var 8)]) (.lit (.int 2))) (.bin .shl (.lit (.int 1)) (.var 5)))), .set 3 (.bin .fdiv (.var 8) (.lit (.int 2)))],
    .rt (.var 4)]⟩
def f_law_turned : Fn := ⟨none, 3, 7, [
    .set 3 (.lit (.int 0)),
    .fr (.var 4) (.rng [(.var 0)]) [.par [(.var 5), (.var 6)] [(.bin .mod (.bi .int [(.bin .fdiv (.var 1) (.bin .shl (.lit (.int 1)) (.var 4)))]) (.lit (.int 2))), (.bin .mod (.bi .int [(.bin .fdiv (.var 2) (.bin .shl (.lit (.int 1)) (.var 4)))]) (.lit (.int 2)))], .set 3 (.bin .add (.var 3) (.bin .mul (.bi .int [(.cmp .ne (.var 5) (.var 6))]) (.bin .shl (.lit (.int 1)) (.var 4))))],
    .rt (.var 3)]⟩
def f_law_shared_2 : Fn := ⟨none, 3, 7, [
    .set 3 (.lit (.int 0)),
    .fr (.var 4) (.rng [(.var 0)]) [.par [(.var 5), (.var 6)] [(.bin .mod (.bi .int [(.bin .fdiv (.var 1) (.bin .shl (.lit (.int 1)) (.var 4)))]) (.lit (.int 2))), (.bin .mod (.bi .int [(.bin .fdiv (.var 2) (.bin .shl (.lit (.int 1)) (.var 4)))]) (.lit (.int 2)))], .set 3 (.bin .add (.var 3) (.bin .mul (.bin .mul (.var 5) (.var 6)) (.bin .shl (.lit (.int 1)) (.var 4))))],
    .rt (.var 3)]⟩
def f_law_due : Fn := ⟨none, 4, 8, [
    .par [(.var 4), (.var 5)] [(.idx (.var 2) (.lit (.int 0))), (.idx (.var 2) (.lit (.int 1)))],
    .set 6 (.idx (.var 1) (.var 5)),
    .ite (.cmp .eq (.var 4) (.lit (.str (Str.ofString "xor")))) [.set 6 (.call i_law_turned [(.var 0), (.var 6), (.idx (.var 1) (.idx (.var 2) (.lit (.int 2))))])] [.ite (.cmp .eq (.var 4) (.lit (.str (Str.ofString "and")))) [.set 6 (.call i_law_turned [(.var 0), (.var 6), (.call i_law_shared_2 [(.var 0), (.idx (.var 1) (.idx (.var 2) (.lit (.int 2)))), (.idx (.var 1) (.idx (.var 2) (.lit (.int 3))))])])] [.set 7 (.ite (.cmp .eq (.var 4) (.lit (.str (Str.ofString "one")))) (.lit (.int 1)) (.idx (.var 1) (.idx (.var 2) (.lit (.int 2))))), .set 6 (.ite (.var 3) (.call i_law_sum [(.var 0), (.var 6), (.bin .sub (.bin .sub (.bin .shl (.lit (.int 1)) (.var 0)) (.lit (.int 1))) (.var 7)), (.lit (.int 1))]) (.call i_law_sum [(.var 0), (.var 6), (.var 7), (.lit (.int 0))]))]],
    .rt (.bin .add (.bin .add (.slc (.var 1) [] [(.var 5)]) (.tup [(.var 6)])) (.slc (.var 1) [(.bin .add (.var 5) (.lit (.int 1)))] []))]⟩
def f_law_is_right_2 : Fn := ⟨some 0, 3, 7, [
    .par [(.var 3), (.var 4)] [(.call i_law_state [(.var 0), (.var 1), (.var 2)]), (.call i_law_deed [(.var 0), (.var 1), (.lst [(.lit (.str (Str.ofString "add"))), (.lit (.str (Str.ofString "add"))), (.lit (.str (Str.ofString "xor"))), (.lit (.str (Str.ofString "and"))), (.lit (.str (Str.ofString "one")))])])],
    .set 5 (.bi .repr [(.lst [(.var 3), (.var 4)])]),
    .set 6 (.lst [(.call i_law_due [(.var 2), (.var 3), (.var 4), (.lit (.bool false))]), (.call i_law_due [(.var 2), (.var 3), (.var 4), (.lit (.bool true))])]),
    .ite (.cmp .ne (.bi .repr [(.lst [(.call i_done [(.var 2), (.var 3), (.var 4)]), (.call i_undone [(.var 2), (.var 3), (.var 4)])])]) (.bi .repr [(.var 6)])) [.rt (.lit (.bool false))] [],
    .ite (.cmp .ne (.bi .repr [(.lst [(.kcall i_done [(.var 4), (.var 3), (.var 2)] [2, 1, 0]), (.kcall i_undone [(.var 4), (.var 3), (.var 2)] [2, 1, 0])])]) (.bi .repr [(.var 6)])) [.rt (.lit (.bool false))] [],
    .ite (.cmp .ne (.bi .repr [(.lst [(.call i_undone [(.var 2), (.idx (.var 6) (.lit (.int 0))), (.var 4)]), (.call i_done [(.var 2), (.idx (.var 6) (.lit (.int 1))), (.var 4)])])]) (.bi .repr [(.lst [(.var 3), (.var 3)])])) [.rt (.lit (.bool false))] [],
    .ite (.cmp .ne (.bi .repr [(.lst [(.var 3), (.var 4)])]) (.var 5)) [.rt (.lit (.bool false))] [],
    .rt (.or (.cmp .nin (.idx (.var 4) (.lit (.int 0))) (.tup [(.lit (.str (Str.ofString "xor"))), (.lit (.str (Str.ofString "and")))])) (.cmp .eq (.bi .repr [(.call i_done [(.var 2), (.idx (.var 6) (.lit (.int 0))), (.var 4)])]) (.bi .repr [(.var 3)])))]⟩
def f_law_2 : Fn := ⟨none, 1, 9, [
    .set 1 (.call i_law_deck [(.var 0)]),
    .fr (.var 2) (.rng [(.lit (.int 8))]) [.par [(.var 3), (.var 4)] [(.bin .add (.lit (.int 3)) (.call i_law_draw [(.var 1), (.lit (.int 6))])), (.call i_law_pick [(.var 1), (.lst [(.lit (.int 1)), (.lit (.int 1)), (.lit (.int 2)), (.lit (.int 3)), (.lit (.int 4)), (.lit (.int 8)), (.lit (.int 17)), (.lit (.int 64))])])], .ite (.not (.call i_law_is_right_2 [(.var 1), (.var 3), (.var 4)])) [.rt (.lit (.bool false))] []],
    .par [(.var 3), (.var 4)] [(.bin .add (.lit (.int 3)) (.call i_law_draw [(.var 1), (.lit (.int 6))])), (.call i_law_pick [(.var 1), (.lst [(.lit (.int 1)), (.lit (.int 2)), (.lit (.int 3)), (.lit (.int 8)), (.lit (.int 64))])])],
    .set 5 (.call i_law_state [(.var 1), (.var 3), (.var 4)]),
    .set 6 (.comp (.var 2) (.rng [(.lit (.int 12))]) [] (.call i_law_deed [(.var 1), (.var 3), (.lst [(.lit (.str (Str.ofString "add"))), (.lit (.str (Str.ofString "xor"))), (.lit (.str (Str.ofString "and"))), (.lit (.str (Str.ofString "one")))])]) [2]),
    .set 7 (.var 5),
    .fr (.var 8) (.of (.var 6)) [.set 7 (.call i_done [(.var 4), (.var 7), (.var 8)])],
    .fr (.var 8) (.of (.rev (.var 6))) [.set 7 (.call i_undone [(.var 4), (.var 7), (.var 8)])],
    .ite (.cmp .ne (.bi .repr [(.var 7)]) (.bi .repr [(.var 5)])) [.rt (.lit (.bool false))] [],
    .par [(.var 3), (.var 4)] [(.bin .add (.lit (.int 3)) (.call i_law_draw [(.var 1), (.lit (.int 2))])), (.bin .add (.lit (.int 1)) (.call i_law_draw [(.var 1), (.lit (.int 5))]))],
    .par [(.var 5), (.var 8)] [(.call i_law_state [(.var 1), (.var 3), (.var 4)]), (.call i_law_deed [(.var 1), (.var 3), (.lst [(.lit (.str (Str.ofString "add"))), (.lit (.str (Str.ofString "one")))])])],
    .set 7 (.var 5),
    .fr (.var 2) (.rng [(.bin .shl (.lit (.int 1)) (.var 4))]) [.set 7 (.call i_done [(.var 4), (.var 7), (.var 8)])],
    .rt (.cmp .eq (.bi .repr [(.var 7)]) (.bi .repr [(.var 5)]))]⟩
end HW
end

section
set_option linter.all false
set_option maxHeartbeats 4000000
set_option maxRecDepth 100000
/-! # Plain: draws -/
namespace HW
open PySem
theorem draw_no {G : Nat → Option Fn} (hG : G i_law_draw = some f_law_draw) {cs : List Int} {m t many : Int} (hm : 0 < many) (hc : cs = [] ∨ ¬ 1 < many) (n : Nat) :
    ∃ r cs' m' t', callN G (n + 1) i_law_draw [dk cs m t, .fz (.int many)] = .ok (.fz (.int r)) (some (dk cs' m' t')) ∧ 0 ≤ r ∧ r < many ∧ cs'.length ≤ cs.length := by
  rw [call_fn hG rfl]
  refine behind_wp (P := fun res => ∃ r cs' m' t', res = .ok (.fz (.int r)) (some (dk cs' m' t')) ∧ 0 ≤ r ∧ r < many ∧ cs'.length ≤ cs.length) ?_
  have e1 : ∀ x : Int, binD .mul (.int 2654435761) (.int x) = some (.fz (.int (2654435761 * x))) := fun x => mul_int (mulOk_l (by decide) (by decide))
  have e2 : ∀ x : Int, binD .mul (.int 48271) (.int x) = some (.fz (.int (48271 * x))) := fun x => mul_int (mulOk_l (by decide) (by decide))
  have e3 : ∀ x y : Int, binD .mul (.int (x % 4294967291)) (.int y) = some (.fz (.int (x % 4294967291 * y))) := fun x y => mul_int (modA x y)
  have e4 : ∀ x y : Int, binD .mul (.int (x % 4294967279)) (.int y) = some (.fz (.int (x % 4294967279 * y))) := fun x y => mul_int (modB x y)
  have e5 : ∀ x : Int, binD .mod (.int x) (.int 4294967291) = some (.fz (.int (x % 4294967291))) := fun x => mod_int (by decide)
  have e6 : ∀ x : Int, binD .mod (.int x) (.int 4294967279) = some (.fz (.int (x % 4294967279))) := fun x => mod_int (by decide)
  have e7 : ∀ x : Int, binD .mod (.int x) (.int many) = some (.fz (.int (x % many))) := fun x => mod_int hm
  have e8 : ∀ x : Int, binD .fdiv (.int x) (.int 256) = some (.fz (.int (x / 256))) := fun x => div_int (by decide) (by decide)
  have e9 : ∀ ps : List Opd, biArgs .int ps = seeAll ps := fun ps => biArgs_see rfl
  rcases hc with rfl | hc
  · simp only [f_law_draw, bind_bnd, wp_bnd, wp_ret, wp_bad, ev_var, ev_lit, ev_bin, ev_neg, ev_cmp, ev_and, ev_or, ev_not, ev_ite, ev_tup, ev_lst, ev_idx, ev_slc, ev_call, ev_kcall, ev_bi, ev_comp, ev_meth, evs_nil, evs_cons, evo_nil, evo_cons, evc_nil, evc_cons, evi_of, evi_rng, evi_enm, evi_zip, evi_rvs, exs_nil, exs_cons, ex_expr, ex_set, ex_unp, ex_par, ex_put, ex_ite, ex_whl, ex_fr, ex_rt, stores_nil, stores_var, opd_tmp, opd_at, val_tmp, val_atE, valD_def, see_fz, see_at, keep_fz, keep_at, give_fz, give_at, slotAt_def, varK_fz, varK_lst, idxK_fz, idxK_at, nodeK_fz, nodeK_lst, kidK_fz, kidK_lst, seeAll_nil, seeAll_cons, keepAll_nil, keepAll_cons, giveAll_nil, giveAll_cons, leave_tmp, leave_at, isLst_at, isAt_at, putAt_at, tgs_var, forL_nil, forL_cons, calling_none, calling_some, lend_noneE, lend_zero, lend_succ, lentK_fz, lentK_at, putBack_at, wpS, wpSet, wpOpt, wpIte, wpLeave, test_def, boolK_t, boolK_f, kid0, kid1, kid2, frz_fz, shal_fz, frz_nil, shal_nil, frz_ints, shal_ints, varK_dk, nodeK_dk, getAt_nil, getAt_dk0, setAt_nil, setAt_dk0, putD_dk2, negK_int, notK_bool, cmp_eqI, cmp_neI, cmp_ltI, cmp_leI, cmp_gtI, cmp_geI, cmp_neN, tru_bool, add_int, sub_int, bi_intI, bi_intB, bi_absI, rngK_2, limE, wpBoolK, behind_rt0, behind_rtN, if_true, if_false, Bool.false_eq_true, Bool.not_true, Bool.not_false, Bool.true_eq_false, List.isEmpty_nil, List.isEmpty_cons, decide_true, decide_false, List.isEmpty, Nat.zero_le, decide_eq_true_eq, List.getElem?_cons_zero, List.getElem?_cons_succ, List.set_cons_zero, List.set_cons_succ, List.length_cons, List.length_nil, List.map_cons, List.map_nil, List.cons_append, List.nil_append, List.replicate, Nat.reduceAdd, Nat.reduceSub, Nat.reduceLT, Nat.reduceLeDiff, true_and, and_true, e1, e2, e3, e4, e5, e6, e7, e8, e9]
    exact ⟨_, _, _, _, rfl, Int.emod_nonneg _ (by omega), Int.emod_lt_of_pos _ hm, Nat.le_refl _⟩
  · cases cs with
    | nil =>
      simp only [f_law_draw, bind_bnd, wp_bnd, wp_ret, wp_bad, ev_var, ev_lit, ev_bin, ev_neg, ev_cmp, ev_and, ev_or, ev_not, ev_ite, ev_tup, ev_lst, ev_idx, ev_slc, ev_call, ev_kcall, ev_bi, ev_comp, ev_meth, evs_nil, evs_cons, evo_nil, evo_cons, evc_nil, evc_cons, evi_of, evi_rng, evi_enm, evi_zip, evi_rvs, exs_nil, exs_cons, ex_expr, ex_set, ex_unp, ex_par, ex_put, ex_ite, ex_whl, ex_fr, ex_rt, stores_nil, stores_var, opd_tmp, opd_at, val_tmp, val_atE, valD_def, see_fz, see_at, keep_fz, keep_at, give_fz, give_at, slotAt_def, varK_fz, varK_lst, idxK_fz, idxK_at, nodeK_fz, nodeK_lst, kidK_fz, kidK_lst, seeAll_nil, seeAll_cons, keepAll_nil, keepAll_cons, giveAll_nil, giveAll_cons, leave_tmp, leave_at, isLst_at, isAt_at, putAt_at, tgs_var, forL_nil, forL_cons, calling_none, calling_some, lend_noneE, lend_zero, lend_succ, lentK_fz, lentK_at, putBack_at, wpS, wpSet, wpOpt, wpIte, wpLeave, test_def, boolK_t, boolK_f, kid0, kid1, kid2, frz_fz, shal_fz, frz_nil, shal_nil, frz_ints, shal_ints, varK_dk, nodeK_dk, getAt_nil, getAt_dk0, setAt_nil, setAt_dk0, putD_dk2, negK_int, notK_bool, cmp_eqI, cmp_neI, cmp_ltI, cmp_leI, cmp_gtI, cmp_geI, cmp_neN, tru_bool, add_int, sub_int, bi_intI, bi_intB, bi_absI, rngK_2, limE, wpBoolK, behind_rt0, behind_rtN, if_true, if_false, Bool.false_eq_true, Bool.not_true, Bool.not_false, Bool.true_eq_false, List.isEmpty_nil, List.isEmpty_cons, decide_true, decide_false, List.isEmpty, Nat.zero_le, decide_eq_true_eq, List.getElem?_cons_zero, List.getElem?_cons_succ, List.set_cons_zero, List.set_cons_succ, List.length_cons, List.length_nil, List.map_cons, List.map_nil, List.cons_append, List.nil_append, List.replicate, Nat.reduceAdd, Nat.reduceSub, Nat.reduceLT, Nat.reduceLeDiff, true_and, and_true, e1, e2, e3, e4, e5, e6, e7, e8, e9]
      exact ⟨_, _, _, _, rfl, Int.emod_nonneg _ (by omega), Int.emod_lt_of_pos _ hm, Nat.le_refl _⟩
    | cons c cs =>
      simp only [f_law_draw, bind_bnd, wp_bnd, wp_ret, wp_bad, ev_var, ev_lit, ev_bin, ev_neg, ev_cmp, ev_and, ev_or, ev_not, ev_ite, ev_tup, ev_lst, ev_idx, ev_slc, ev_call, ev_kcall, ev_bi, ev_comp, ev_meth, evs_nil, evs_cons, evo_nil, evo_cons, evc_nil, evc_cons, evi_of, evi_rng, evi_enm, evi_zip, evi_rvs, exs_nil, exs_cons, ex_expr, ex_set, ex_unp, ex_par, ex_put, ex_ite, ex_whl, ex_fr, ex_rt, stores_nil, stores_var, opd_tmp, opd_at, val_tmp, val_atE, valD_def, see_fz, see_at, keep_fz, keep_at, give_fz, give_at, slotAt_def, varK_fz, varK_lst, idxK_fz, idxK_at, nodeK_fz, nodeK_lst, kidK_fz, kidK_lst, seeAll_nil, seeAll_cons, keepAll_nil, keepAll_cons, giveAll_nil, giveAll_cons, leave_tmp, leave_at, isLst_at, isAt_at, putAt_at, tgs_var, forL_nil, forL_cons, calling_none, calling_some, lend_noneE, lend_zero, lend_succ, lentK_fz, lentK_at, putBack_at, wpS, wpSet, wpOpt, wpIte, wpLeave, test_def, boolK_t, boolK_f, kid0, kid1, kid2, frz_fz, shal_fz, frz_nil, shal_nil, frz_ints, shal_ints, varK_dk, nodeK_dk, getAt_nil, getAt_dk0, setAt_nil, setAt_dk0, putD_dk2, negK_int, notK_bool, cmp_eqI, cmp_neI, cmp_ltI, cmp_leI, cmp_gtI, cmp_geI, cmp_neN, tru_bool, add_int, sub_int, bi_intI, bi_intB, bi_absI, rngK_2, limE, wpBoolK, behind_rt0, behind_rtN, if_true, if_false, Bool.false_eq_true, Bool.not_true, Bool.not_false, Bool.true_eq_false, List.isEmpty_nil, List.isEmpty_cons, decide_true, decide_false, List.isEmpty, Nat.zero_le, decide_eq_true_eq, List.getElem?_cons_zero, List.getElem?_cons_succ, List.set_cons_zero, List.set_cons_succ, List.length_cons, List.length_nil, List.map_cons, List.map_nil, List.cons_append, List.nil_append, List.replicate, Nat.reduceAdd, Nat.reduceSub, Nat.reduceLT, Nat.reduceLeDiff, true_and, and_true, e1, e2, e3, e4, e5, e6, e7, e8, e9, hc]
      exact ⟨_, _, _, _, rfl, Int.emod_nonneg _ (by omega), Int.emod_lt_of_pos _ hm, Nat.le_refl _⟩
theorem pop0 {c : Int} {cs : List Int} : methD .popAt (.lst ((intsL (c :: cs)).map .fz)) [.int 0] = some (.int c, .lst ((intsL cs).map .fz)) := by
  show (if -(2 ^ 63) ≤ (0 : Int) ∧ (0 : Int) < 2 ^ 63 then (place ((intsL (c :: cs)).map OD.fz).length 0).bind fun j => (((intsL (c :: cs)).map OD.fz)[j]?).bind fun p => (isFz p).map fun d => (d, OD.lst (((intsL (c :: cs)).map OD.fz).eraseIdx j)) else none) = _
  rw [if_pos (by decide)]
  have : place ((intsL (c :: cs)).map OD.fz).length 0 = some 0 := by
    unfold place
    rw [if_pos (by decide), if_pos]
    · rfl
    · simp [intsL]
  rw [this]; rfl
theorem ins0 {x : Int} {cs : List Int} (h : cs.length ≤ 63) : methD .insert (.lst ((intsL cs).map .fz)) [.int 0, .int x] = some (.none, .lst ((intsL (x :: cs)).map .fz)) := by
  show (if (0 : Int) = 0 ∧ ((intsL cs).map OD.fz).length < lim then some (PyData.none, OD.lst (.fz (.int x) :: (intsL cs).map OD.fz)) else none) = _
  rw [if_pos ⟨rfl, by simp [intsL, limE]; omega⟩]; rfl
theorem draw_pop {G : Nat → Option Fn} (hG : G i_law_draw = some f_law_draw) {c : Int} {cs : List Int} {m t many : Int} (hm : 1 < many) (hb : many.natAbs.log2 < 9000) (hl : (c :: cs).length ≤ 63) (n : Nat) :
    ∃ r cs' m' t', callN G (n + 1) i_law_draw [dk (c :: cs) m t, .fz (.int many)] = .ok (.fz (.int r)) (some (dk cs' m' t')) ∧ 0 ≤ r ∧ r < many ∧ cs'.length ≤ (c :: cs).length := by
  rw [call_fn hG rfl]
  refine behind_wp (P := fun res => ∃ r cs' m' t', res = .ok (.fz (.int r)) (some (dk cs' m' t')) ∧ 0 ≤ r ∧ r < many ∧ cs'.length ≤ (c :: cs).length) ?_
  have h0 : 0 < many := by omega
  have e7 : ∀ x : Int, binD .mod (.int x) (.int many) = some (.fz (.int (x % many))) := fun x => mod_int h0
  have e8 : ∀ x : Int, binD .fdiv (.int x) (.int many) = some (.fz (.int (x / many))) := fun x => div_int h0 hb
  have e9 : ∀ ps : List Opd, biArgs .int ps = seeAll ps := fun ps => biArgs_see rfl
  have e10 : ∀ x : Int, methD .insert (.lst ((intsL cs).map .fz)) [.int 0, .int x] = some (.none, .lst ((intsL (x :: cs)).map .fz)) := fun x => ins0 (by simp at hl; omega)
  by_cases hc : many ≤ c
  · simp only [f_law_draw, bind_bnd, wp_bnd, wp_ret, wp_bad, ev_var, ev_lit, ev_bin, ev_neg, ev_cmp, ev_and, ev_or, ev_not, ev_ite, ev_tup, ev_lst, ev_idx, ev_slc, ev_call, ev_kcall, ev_bi, ev_comp, ev_meth, evs_nil, evs_cons, evo_nil, evo_cons, evc_nil, evc_cons, evi_of, evi_rng, evi_enm, evi_zip, evi_rvs, exs_nil, exs_cons, ex_expr, ex_set, ex_unp, ex_par, ex_put, ex_ite, ex_whl, ex_fr, ex_rt, stores_nil, stores_var, opd_tmp, opd_at, val_tmp, val_atE, valD_def, see_fz, see_at, keep_fz, keep_at, give_fz, give_at, slotAt_def, varK_fz, varK_lst, idxK_fz, idxK_at, nodeK_fz, nodeK_lst, kidK_fz, kidK_lst, seeAll_nil, seeAll_cons, keepAll_nil, keepAll_cons, giveAll_nil, giveAll_cons, leave_tmp, leave_at, isLst_at, isAt_at, putAt_at, tgs_var, forL_nil, forL_cons, calling_none, calling_some, lend_noneE, lend_zero, lend_succ, lentK_fz, lentK_at, putBack_at, wpS, wpSet, wpOpt, wpIte, wpLeave, test_def, boolK_t, boolK_f, kid0, kid1, kid2, frz_fz, shal_fz, frz_nil, shal_nil, frz_ints, shal_ints, varK_dk, nodeK_dk, getAt_nil, getAt_dk0, setAt_nil, setAt_dk0, putD_dk2, negK_int, notK_bool, cmp_eqI, cmp_neI, cmp_ltI, cmp_leI, cmp_gtI, cmp_geI, cmp_neN, tru_bool, add_int, sub_int, bi_intI, bi_intB, bi_absI, rngK_2, limE, wpBoolK, behind_rt0, behind_rtN, if_true, if_false, Bool.false_eq_true, Bool.not_true, Bool.not_false, Bool.true_eq_false, List.isEmpty_nil, List.isEmpty_cons, decide_true, decide_false, List.isEmpty, Nat.zero_le, decide_eq_true_eq, List.getElem?_cons_zero, List.getElem?_cons_succ, List.set_cons_zero, List.set_cons_succ, List.length_cons, List.length_nil, List.map_cons, List.map_nil, List.cons_append, List.nil_append, List.replicate, Nat.reduceAdd, Nat.reduceSub, Nat.reduceLT, Nat.reduceLeDiff, true_and, and_true, e7, e8, e9, e10, hc, hm, pop0]
    exact ⟨_, _, _, _, rfl, Int.emod_nonneg _ (by omega), Int.emod_lt_of_pos _ h0, by simp⟩
  · simp only [f_law_draw, bind_bnd, wp_bnd, wp_ret, wp_bad, ev_var, ev_lit, ev_bin, ev_neg, ev_cmp, ev_and, ev_or, ev_not, ev_ite, ev_tup, ev_lst, ev_idx, ev_slc, ev_call, ev_kcall, ev_bi, ev_comp, ev_meth, evs_nil, evs_cons, evo_nil, evo_cons, evc_nil, evc_cons, evi_of, evi_rng, evi_enm, evi_zip, evi_rvs, exs_nil, exs_cons, ex_expr, ex_set, ex_unp, ex_par, ex_put, ex_ite, ex_whl, ex_fr, ex_rt, stores_nil, stores_var, opd_tmp, opd_at, val_tmp, val_atE, valD_def, see_fz, see_at, keep_fz, keep_at, give_fz, give_at, slotAt_def, varK_fz, varK_lst, idxK_fz, idxK_at, nodeK_fz, nodeK_lst, kidK_fz, kidK_lst, seeAll_nil, seeAll_cons, keepAll_nil, keepAll_cons, giveAll_nil, giveAll_cons, leave_tmp, leave_at, isLst_at, isAt_at, putAt_at, tgs_var, forL_nil, forL_cons, calling_none, calling_some, lend_noneE, lend_zero, lend_succ, lentK_fz, lentK_at, putBack_at, wpS, wpSet, wpOpt, wpIte, wpLeave, test_def, boolK_t, boolK_f, kid0, kid1, kid2, frz_fz, shal_fz, frz_nil, shal_nil, frz_ints, shal_ints, varK_dk, nodeK_dk, getAt_nil, getAt_dk0, setAt_nil, setAt_dk0, putD_dk2, negK_int, notK_bool, cmp_eqI, cmp_neI, cmp_ltI, cmp_leI, cmp_gtI, cmp_geI, cmp_neN, tru_bool, add_int, sub_int, bi_intI, bi_intB, bi_absI, rngK_2, limE, wpBoolK, behind_rt0, behind_rtN, if_true, if_false, Bool.false_eq_true, Bool.not_true, Bool.not_false, Bool.true_eq_false, List.isEmpty_nil, List.isEmpty_cons, decide_true, decide_false, List.isEmpty, Nat.zero_le, decide_eq_true_eq, List.getElem?_cons_zero, List.getElem?_cons_succ, List.set_cons_zero, List.set_cons_succ, List.length_cons, List.length_nil, List.map_cons, List.map_nil, List.cons_append, List.nil_append, List.replicate, Nat.reduceAdd, Nat.reduceSub, Nat.reduceLT, Nat.reduceLeDiff, true_and, and_true, e7, e8, e9, e10, hc, hm, pop0]
    exact ⟨_, _, _, _, rfl, Int.emod_nonneg _ (by omega), Int.emod_lt_of_pos _ h0, by simp⟩
/-- a draw -/
theorem draw {G : Nat → Option Fn} (hG : G i_law_draw = some f_law_draw) {cs : List Int} {m t many : Int} (hm : 0 < many) (hb : many.natAbs.log2 < 9000) (hl : cs.length ≤ 63) (n : Nat) :
    ∃ r cs' m' t', callN G (n + 1) i_law_draw [dk cs m t, .fz (.int many)] = .ok (.fz (.int r)) (some (dk cs' m' t')) ∧ 0 ≤ r ∧ r < many ∧ cs'.length ≤ 63 := by
  by_cases h1 : 1 < many
  · cases cs with
    | nil =>
      obtain ⟨r, cs', m', t', h, a, b, d⟩ := draw_no hG (m := m) (t := t) hm (.inl rfl) n
      exact ⟨r, cs', m', t', h, a, b, by simp at d; subst d; simp⟩
    | cons c cs =>
      obtain ⟨r, cs', m', t', h, a, b, d⟩ := draw_pop hG (m := m) (t := t) h1 hb hl n
      exact ⟨r, cs', m', t', h, a, b, by omega⟩
  · obtain ⟨r, cs', m', t', h, a, b, d⟩ := draw_no hG (m := m) (t := t) (cs := cs) hm (.inr h1) n
    exact ⟨r, cs', m', t', h, a, b, by omega⟩
end HW
end

section
set_option linter.all false
set_option maxHeartbeats 4000000
/-! # Plain: loops, comprehensions -/
namespace HW
open PySem
/-- a loop: I before each turn; what a turn may end in -/
theorem for_inv {body : PyData → M Fl} {P : Fl → Env → Prop} (I : List PyData → Env → Prop) (step : ∀ d ds e, I (d :: ds) e → wp (body d) e fun f e1 => match f with | .nx => I ds e1 | .ct => I ds e1 | .bk => P .nx e1 | .rt o => P (.rt o) e1) (done : ∀ e, I [] e → P .nx e) :
    ∀ ds e, I ds e → wp (forL body ds) e P
  | [], e, h => done e h
  | d :: ds, e, h => by
    rw [forL_cons, wp_bnd]
    refine wp_mono (step d ds e h) fun f e1 q => ?_
    cases f with
    | nx => exact for_inv I step done ds e1 q
    | ct => exact for_inv I step done ds e1 q
    | bk => exact q
    | rt o => exact q
theorem turns_inv {body : PyData → M (Option PyData)} (I : List PyData → List PyData → Env → Prop) (step : ∀ d ds ys e, I (d :: ds) ys e → wp (body d) e fun x e1 => match x with | some y => ys.length < lim ∧ I ds (ys ++ [y]) e1 | none => I ds ys e1) :
    ∀ ds ys e, I ds ys e → wp (turns body ds ys) e fun zs e1 => I [] zs e1
  | [], ys, e, h => h
  | d :: ds, ys, e, h => by
    show wp (bnd (body d) fun x => match x with | some y => if ys.length < lim then turns body ds (ys ++ [y]) else bad | none => turns body ds ys) e _
    rw [wp_bnd]
    refine wp_mono (step d ds ys e h) fun x e1 q => ?_
    cases x with
    | some y =>
      show wp (if ys.length < lim then turns body ds (ys ++ [y]) else bad) e1 _
      rw [if_pos q.1]
      exact turns_inv I step ds _ e1 q.2
    | none => exact turns_inv I step ds ys e1 q
theorem comp_inv {own : List Nat} {body : PyData → M (Option PyData)} {e0 : Env} {P : Rv → Env → Prop} (I : List PyData → List PyData → Env → Prop) (step : ∀ d ds ys e, I (d :: ds) ys e → wp (body d) (wipeE e own) fun x e1 => match x with | some y => ys.length < lim ∧ I ds (ys ++ [y]) e1 | none => I ds ys e1)
    {ds : List PyData} (start : I ds [] e0) (done : ∀ ys e, I [] ys e → P (.tmp (fzs ys)) (restore e0 own e)) : wp (compK own body ds) e0 P := by
  obtain ⟨zs, e1, h1, h2⟩ := wp_ok (turns_inv (body := fun d e' => body d (wipeE e' own)) I (fun d ds ys e h => step d ds ys e h) ds [] e0 start)
  unfold wp compK
  rw [h1]
  exact done zs e1 h2
theorem wipeL (own : List Nat) (e : Env) : (wipeE e own).length = e.length := by
  induction own with
  | nil => rfl
  | cons i is ih => unfold wipeE; rw [List.length_set, ih]
theorem wipeA (j : Nat) (e : Env) : ∀ own : List Nat, (wipeE e own)[j]? = if j ∈ own then (e[j]?).map (fun _ => none) else e[j]?
  | [] => by simp [wipeE]
  | i :: is => by
    have ih := wipeA j e is
    unfold wipeE
    rw [List.getElem?_set, ih, wipeL]
    by_cases c : i = j
    · subst c
      rw [if_pos rfl, if_pos List.mem_cons_self]
      by_cases l : i < e.length
      · rw [if_pos l, List.getElem?_eq_getElem l]; rfl
      · rw [if_neg l, List.getElem?_eq_none (by omega)]; rfl
    · rw [if_neg c]
      by_cases m : j ∈ is
      · rw [if_pos m, if_pos (List.mem_cons_of_mem _ m)]
      · rw [if_neg m, if_neg (by simp [m]; exact fun z => c z.symm)]
theorem restL (e₀ : Env) (own : List Nat) (e : Env) : (restore e₀ own e).length = e.length := by
  induction own with
  | nil => rfl
  | cons i is ih => unfold restore; rw [List.length_set, ih]
def keptE (e₀ : Env) (j : Nat) : Option OD := match e₀[j]? with
  | some (some (.fz d)) => some (.fz d)
  | _ => none
theorem restA (e₀ : Env) (j : Nat) (e : Env) : ∀ own : List Nat, (restore e₀ own e)[j]? = if j ∈ own then (e[j]?).map (fun _ => keptE e₀ j) else e[j]?
  | [] => by simp [restore]
  | i :: is => by
    have ih := restA e₀ j e is
    show ((restore e₀ is e).set i (keptE e₀ i))[j]? = _
    rw [List.getElem?_set, ih, restL]
    by_cases c : i = j
    · subst c
      rw [if_pos rfl, if_pos List.mem_cons_self]
      by_cases l : i < e.length
      · rw [if_pos l, List.getElem?_eq_getElem l]; rfl
      · rw [if_neg l, List.getElem?_eq_none (by omega)]; rfl
    · rw [if_neg c]
      by_cases m : j ∈ is
      · rw [if_pos m, if_pos (List.mem_cons_of_mem _ m)]
      · rw [if_neg m, if_neg (by simp [m]; exact fun z => c z.symm)]
/-- the block's own slots were empty: all is as the last turn left it -/
theorem rest_wipe {e₀ e : Env} {own : List Nat} (h : wipeE e₀ own = e₀) : restore e₀ own e = wipeE e own := by
  apply List.ext_getElem?
  intro j
  rw [restA, wipeA]
  by_cases m : j ∈ own
  · simp only [m, if_true]
    have : keptE e₀ j = none := by
      have g := wipeA j e₀ own
      rw [h, if_pos m] at g
      unfold keptE
      cases z : e₀[j]? with
      | none => rfl
      | some x =>
        rw [z] at g
        simp at g
        subst g
        rfl
    rw [this]
  · simp only [m, if_false]
/-- a comprehension whose turns change nothing: a map -/
theorem comp_map {own : List Nat} {body : PyData → M (Option PyData)} {e : Env} {P : Rv → Env → Prop} {ds : List PyData} (f : PyData → PyData) (hw : wipeE e own = e) (hl : ds.length ≤ lim) (hb : ∀ d ∈ ds, wp (body d) e fun x e1 => x = some (f d) ∧ wipeE e1 own = e) (hP : P (.tmp (fzs (ds.map f))) e) : wp (compK own body ds) e P := by
  refine comp_inv (fun rest ys e1 => wipeE e1 own = e ∧ (∃ pre, ds = pre ++ rest ∧ ys = pre.map f)) (fun d rest ys e1 h => ?_) ⟨hw, [], rfl, rfl⟩ (fun ys e1 h => ?_)
  · obtain ⟨h1, pre, h2, h3⟩ := h
    rw [h1]
    refine wp_mono (hb d (by rw [h2]; simp)) fun x e2 ⟨q1, q2⟩ => ?_
    subst q1
    refine ⟨?_, q2, pre ++ [d], by rw [h2]; simp, by rw [h3]; simp⟩
    rw [h3, List.length_map]
    have : pre.length < ds.length := by rw [h2]; simp
    omega
  · obtain ⟨h1, pre, h2, h3⟩ := h
    rw [List.append_nil] at h2
    subst h2
    rw [h3, rest_wipe hw, h1]
    exact hP
end HW
end

section
set_option linter.all false
set_option maxHeartbeats 4000000
set_option maxRecDepth 100000
/-! # Plain: the deck -/
namespace HW
open PySem
theorem rest_wiped {e₀ e : Env} {own : List Nat} : restore e₀ own e = restore e₀ own (wipeE e own) := by
  apply List.ext_getElem?
  intro j
  rw [restA, restA, wipeA]
  by_cases m : j ∈ own
  · simp only [m, if_true]
    cases e[j]? <;> rfl
  · simp only [m, if_false]
theorem lim_big {n : Nat} (h : n ≤ 1000) : n ≤ lim := Nat.le_trans h (by decide)
theorem bi_lenL {ds : List PyData} : biD .len [.list ds] = some (.fz (.int ds.length)) := rfl
theorem bi_lenT {ds : List PyData} : biD .len [.tuple ds] = some (.fz (.int ds.length)) := rfl
theorem cutD_list {ds : List PyData} {l h : Option Int} : cutD (.list ds) l h = some (fzs (cut ds l h)) := rfl
theorem cutEnds_nil : cutEnds [] = some none := rfl
theorem cutEnds_one {i : Int} : cutEnds [.int i] = some (some i) := rfl
theorem cutP_def {ps : List Opd} : cutP ps = bnd (seeAll ps) fun ds => opt (cutEnds ds) := rfl
theorem seqD_list {ds : List PyData} : seqD (.list ds) = some ds := rfl
theorem seqD_tup {ds : List PyData} : seqD (.tuple ds) = some ds := rfl
theorem cut63 {ds : List PyData} (h : ds.length ≤ 63) : cut ds none (some 63) = ds := by
  show (ds.drop 0).take (min (63 : Int).toNat ds.length - 0) = ds
  rw [List.drop_zero, List.take_of_length_le]
  have : (63 : Int).toNat = 63 := rfl
  omega
theorem varK_fzs {i : Nat} {ds : List PyData} : varK i (fzs ds) = ret (.at i []) := rfl
theorem isE_nil : (([] : List PyData).isEmpty = true) = True := by simp
theorem len_ints {cs : List Int} : (intsL cs).length = cs.length := by simp [intsL]
theorem pow_int {i j : Int} (h : powOk i j = true) : binD .pow (.int i) (.int j) = some (.fz (.int (i ^ j.toNat))) := by
  show ((if powOk i j then some (i ^ j.toNat) else none).map fun k => OD.fz (.int k)) = _
  rw [if_pos h]; rfl
theorem mem_ints {d : PyData} {cs : List Int} (h : d ∈ intsL cs) : ∃ c ∈ cs, d = .int c := by
  unfold intsL at h
  obtain ⟨c, h1, h2⟩ := List.mem_map.mp h
  exact ⟨c, h1, h2.symm⟩
def cell1 : PyData → PyData
  | .int c => .int (2 * (if c < 0 then -c else c) + (if c < 0 then 1 else 0))
  | d => d
theorem deck_ok {G : Nat → Option Fn} (hG : G i_law_deck = some f_law_deck) {ns : List Int} (hl : ns.length ≤ 63) (n : Nat) : ∃ cs m t, callN G (n + 1) i_law_deck [.fz (.list (intsL ns))] = .ok (dk cs m t) none ∧ cs.length ≤ 63 := by
  rw [call_fn hG rfl]
  refine behind_wp (P := fun res => ∃ cs m t, res = .ok (dk cs m t) none ∧ cs.length ≤ 63) ?_
  have e1 : ∀ x : Int, binD .mul (.int 2) (.int x) = some (.fz (.int (2 * x))) := fun x => mul_int (mulOk_l (by decide) (by decide))
  have e2 : ∀ x : Int, binD .mul (.int x) (.int 16807) = some (.fz (.int (x * 16807))) := fun x => mul_int (mulOk_r (by decide) (by decide))
  have e5 : ∀ x : Int, binD .mod (.int x) (.int 4294967291) = some (.fz (.int (x % 4294967291))) := fun x => mod_int (by decide)
  have e6 : binD .pow (.int 10) (.int 15) = some (.fz (.int (10 ^ 15))) := pow_int (by decide)
  have e9 : ∀ ps : List Opd, biArgs .int ps = seeAll ps := fun ps => biArgs_see rfl
  have e10 : ∀ ps : List Opd, biArgs .abs ps = seeAll ps := fun ps => biArgs_see rfl
  have e11 : ∀ ps : List Opd, biArgs .len ps = seeAll ps := fun ps => biArgs_see rfl
  have hc : cut (intsL ns) none (some 63) = intsL ns := cut63 (by rw [len_ints]; exact hl)
  have hll : (intsL ns).length ≤ 63 := by rw [len_ints]; exact hl
  simp only [f_law_deck, bind_bnd, wp_bnd, wp_ret, wp_bad, ev_var, ev_lit, ev_bin, ev_neg, ev_cmp, ev_and, ev_or, ev_not, ev_ite, ev_tup, ev_lst, ev_idx, ev_slc, ev_call, ev_kcall, ev_bi, ev_comp, ev_meth, evs_nil, evs_cons, evo_nil, evo_cons, evc_nil, evc_cons, evi_of, evi_rng, evi_enm, evi_zip, evi_rvs, exs_nil, exs_cons, ex_expr, ex_set, ex_unp, ex_par, ex_put, ex_ite, ex_whl, ex_fr, ex_rt, stores_nil, stores_var, opd_tmp, opd_at, val_tmp, val_atE, valD_def, see_fz, see_at, keep_fz, keep_at, give_fz, give_at, slotAt_def, varK_fz, varK_lst, idxK_fz, idxK_at, nodeK_fz, nodeK_lst, kidK_fz, kidK_lst, seeAll_nil, seeAll_cons, keepAll_nil, keepAll_cons, giveAll_nil, giveAll_cons, leave_tmp, leave_at, isLst_at, isAt_at, putAt_at, tgs_var, forL_nil, forL_cons, calling_none, calling_some, lend_noneE, lend_zero, lend_succ, lentK_fz, lentK_at, putBack_at, wpS, wpSet, wpOpt, wpIte, wpLeave, test_def, boolK_t, boolK_f, kid0, kid1, kid2, frz_fz, shal_fz, frz_nil, shal_nil, frz_ints, shal_ints, varK_dk, nodeK_dk, getAt_nil, getAt_dk0, setAt_nil, setAt_dk0, putD_dk2, negK_int, notK_bool, cmp_eqI, cmp_neI, cmp_ltI, cmp_leI, cmp_gtI, cmp_geI, cmp_neN, tru_bool, add_int, sub_int, bi_intI, bi_intB, bi_absI, rngK_2, limE, wpBoolK, behind_rt0, behind_rtN, if_true, if_false, Bool.false_eq_true, Bool.not_true, Bool.not_false, Bool.true_eq_false, List.isEmpty_nil, List.isEmpty_cons, decide_true, decide_false, List.isEmpty, Nat.zero_le, decide_eq_true_eq, List.getElem?_cons_zero, List.getElem?_cons_succ, List.set_cons_zero, List.set_cons_succ, List.length_cons, List.length_nil, List.map_cons, List.map_nil, List.cons_append, List.nil_append, List.replicate, Nat.reduceAdd, Nat.reduceSub, Nat.reduceLT, Nat.reduceLeDiff, true_and, and_true, cutP_def, cutEnds_nil, cutEnds_one, cutD_list, frz_fzs', seqD_list, hc]
  refine comp_map cell1 rfl (lim_big (by omega)) (fun d hd => ?_) ?_
  · obtain ⟨c, _, rfl⟩ := mem_ints hd
    simp only [bind_bnd, wp_bnd, wp_ret, wp_bad, ev_var, ev_lit, ev_bin, ev_neg, ev_cmp, ev_and, ev_or, ev_not, ev_ite, ev_tup, ev_lst, ev_idx, ev_slc, ev_call, ev_kcall, ev_bi, ev_comp, ev_meth, evs_nil, evs_cons, evo_nil, evo_cons, evc_nil, evc_cons, evi_of, evi_rng, evi_enm, evi_zip, evi_rvs, exs_nil, exs_cons, ex_expr, ex_set, ex_unp, ex_par, ex_put, ex_ite, ex_whl, ex_fr, ex_rt, stores_nil, stores_var, opd_tmp, opd_at, val_tmp, val_atE, valD_def, see_fz, see_at, keep_fz, keep_at, give_fz, give_at, slotAt_def, varK_fz, varK_lst, idxK_fz, idxK_at, nodeK_fz, nodeK_lst, kidK_fz, kidK_lst, seeAll_nil, seeAll_cons, keepAll_nil, keepAll_cons, giveAll_nil, giveAll_cons, leave_tmp, leave_at, isLst_at, isAt_at, putAt_at, tgs_var, forL_nil, forL_cons, calling_none, calling_some, lend_noneE, lend_zero, lend_succ, lentK_fz, lentK_at, putBack_at, wpS, wpSet, wpOpt, wpIte, wpLeave, test_def, boolK_t, boolK_f, kid0, kid1, kid2, frz_fz, shal_fz, frz_nil, shal_nil, frz_ints, shal_ints, varK_dk, nodeK_dk, getAt_nil, getAt_dk0, setAt_nil, setAt_dk0, putD_dk2, negK_int, notK_bool, cmp_eqI, cmp_neI, cmp_ltI, cmp_leI, cmp_gtI, cmp_geI, cmp_neN, tru_bool, add_int, sub_int, bi_intI, bi_intB, bi_absI, rngK_2, limE, wpBoolK, behind_rt0, behind_rtN, if_true, if_false, Bool.false_eq_true, Bool.not_true, Bool.not_false, Bool.true_eq_false, List.isEmpty_nil, List.isEmpty_cons, decide_true, decide_false, List.isEmpty, Nat.zero_le, decide_eq_true_eq, List.getElem?_cons_zero, List.getElem?_cons_succ, List.set_cons_zero, List.set_cons_succ, List.length_cons, List.length_nil, List.map_cons, List.map_nil, List.cons_append, List.nil_append, List.replicate, Nat.reduceAdd, Nat.reduceSub, Nat.reduceLT, Nat.reduceLeDiff, true_and, and_true, e1, e9, e10, valD_def]
    exact ⟨rfl, rfl⟩
  · simp only [bind_bnd, wp_bnd, wp_ret, wp_bad, ev_var, ev_lit, ev_bin, ev_neg, ev_cmp, ev_and, ev_or, ev_not, ev_ite, ev_tup, ev_lst, ev_idx, ev_slc, ev_call, ev_kcall, ev_bi, ev_comp, ev_meth, evs_nil, evs_cons, evo_nil, evo_cons, evc_nil, evc_cons, evi_of, evi_rng, evi_enm, evi_zip, evi_rvs, exs_nil, exs_cons, ex_expr, ex_set, ex_unp, ex_par, ex_put, ex_ite, ex_whl, ex_fr, ex_rt, stores_nil, stores_var, opd_tmp, opd_at, val_tmp, val_atE, valD_def, see_fz, see_at, keep_fz, keep_at, give_fz, give_at, slotAt_def, varK_fz, varK_lst, idxK_fz, idxK_at, nodeK_fz, nodeK_lst, kidK_fz, kidK_lst, seeAll_nil, seeAll_cons, keepAll_nil, keepAll_cons, giveAll_nil, giveAll_cons, leave_tmp, leave_at, isLst_at, isAt_at, putAt_at, tgs_var, forL_nil, forL_cons, calling_none, calling_some, lend_noneE, lend_zero, lend_succ, lentK_fz, lentK_at, putBack_at, wpS, wpSet, wpOpt, wpIte, wpLeave, test_def, boolK_t, boolK_f, kid0, kid1, kid2, frz_fz, shal_fz, frz_nil, shal_nil, frz_ints, shal_ints, varK_dk, nodeK_dk, getAt_nil, getAt_dk0, setAt_nil, setAt_dk0, putD_dk2, negK_int, notK_bool, cmp_eqI, cmp_neI, cmp_ltI, cmp_leI, cmp_gtI, cmp_geI, cmp_neN, tru_bool, add_int, sub_int, bi_intI, bi_intB, bi_absI, rngK_2, limE, wpBoolK, behind_rt0, behind_rtN, if_true, if_false, Bool.false_eq_true, Bool.not_true, Bool.not_false, Bool.true_eq_false, List.isEmpty_nil, List.isEmpty_cons, decide_true, decide_false, List.isEmpty, Nat.zero_le, decide_eq_true_eq, List.getElem?_cons_zero, List.getElem?_cons_succ, List.set_cons_zero, List.set_cons_succ, List.length_cons, List.length_nil, List.map_cons, List.map_nil, List.cons_append, List.nil_append, List.replicate, Nat.reduceAdd, Nat.reduceSub, Nat.reduceLT, Nat.reduceLeDiff, true_and, and_true, e11, bi_lenL, frz_fzs', seqD_list, varK_fzs, isE_nil, valD_def]
    obtain ⟨xs, hxs⟩ : ∃ xs, (intsL ns).map cell1 = intsL xs := ⟨ns.map fun c => 2 * (if c < 0 then -c else c) + (if c < 0 then 1 else 0), by simp [intsL, cell1]⟩
    have hx : xs.length ≤ 63 := by
      have := congrArg List.length hxs
      simp [intsL] at this
      omega
    rw [hxs]
    refine for_inv (fun rest e => (∃ ys, rest = intsL ys) ∧ ∃ m x, e = [some (.fz (.list (intsL ns))), some (.fz (.list (intsL xs))), some (.fz (.int m)), x]) (fun d ds e h => ?_) (fun e h => ?_) _ _ ⟨⟨xs, rfl⟩, _, _, rfl⟩
    · obtain ⟨⟨ys, hy⟩, m, x, rfl⟩ := h
      cases ys with
      | nil => cases hy
      | cons y ys =>
        injection hy with h1 h2
        subst h1 h2
        simp only [bind_bnd, wp_bnd, wp_ret, wp_bad, ev_var, ev_lit, ev_bin, ev_neg, ev_cmp, ev_and, ev_or, ev_not, ev_ite, ev_tup, ev_lst, ev_idx, ev_slc, ev_call, ev_kcall, ev_bi, ev_comp, ev_meth, evs_nil, evs_cons, evo_nil, evo_cons, evc_nil, evc_cons, evi_of, evi_rng, evi_enm, evi_zip, evi_rvs, exs_nil, exs_cons, ex_expr, ex_set, ex_unp, ex_par, ex_put, ex_ite, ex_whl, ex_fr, ex_rt, stores_nil, stores_var, opd_tmp, opd_at, val_tmp, val_atE, valD_def, see_fz, see_at, keep_fz, keep_at, give_fz, give_at, slotAt_def, varK_fz, varK_lst, idxK_fz, idxK_at, nodeK_fz, nodeK_lst, kidK_fz, kidK_lst, seeAll_nil, seeAll_cons, keepAll_nil, keepAll_cons, giveAll_nil, giveAll_cons, leave_tmp, leave_at, isLst_at, isAt_at, putAt_at, tgs_var, forL_nil, forL_cons, calling_none, calling_some, lend_noneE, lend_zero, lend_succ, lentK_fz, lentK_at, putBack_at, wpS, wpSet, wpOpt, wpIte, wpLeave, test_def, boolK_t, boolK_f, kid0, kid1, kid2, frz_fz, shal_fz, frz_nil, shal_nil, frz_ints, shal_ints, varK_dk, nodeK_dk, getAt_nil, getAt_dk0, setAt_nil, setAt_dk0, putD_dk2, negK_int, notK_bool, cmp_eqI, cmp_neI, cmp_ltI, cmp_leI, cmp_gtI, cmp_geI, cmp_neN, tru_bool, add_int, sub_int, bi_intI, bi_intB, bi_absI, rngK_2, limE, wpBoolK, behind_rt0, behind_rtN, if_true, if_false, Bool.false_eq_true, Bool.not_true, Bool.not_false, Bool.true_eq_false, List.isEmpty_nil, List.isEmpty_cons, decide_true, decide_false, List.isEmpty, Nat.zero_le, decide_eq_true_eq, List.getElem?_cons_zero, List.getElem?_cons_succ, List.set_cons_zero, List.set_cons_succ, List.length_cons, List.length_nil, List.map_cons, List.map_nil, List.cons_append, List.nil_append, List.replicate, Nat.reduceAdd, Nat.reduceSub, Nat.reduceLT, Nat.reduceLeDiff, true_and, and_true, e2, e5, e9]
        exact ⟨⟨ys, rfl⟩, _, _, rfl⟩
    · obtain ⟨_, m, x, rfl⟩ := h
      simp only [bind_bnd, wp_bnd, wp_ret, wp_bad, ev_var, ev_lit, ev_bin, ev_neg, ev_cmp, ev_and, ev_or, ev_not, ev_ite, ev_tup, ev_lst, ev_idx, ev_slc, ev_call, ev_kcall, ev_bi, ev_comp, ev_meth, evs_nil, evs_cons, evo_nil, evo_cons, evc_nil, evc_cons, evi_of, evi_rng, evi_enm, evi_zip, evi_rvs, exs_nil, exs_cons, ex_expr, ex_set, ex_unp, ex_par, ex_put, ex_ite, ex_whl, ex_fr, ex_rt, stores_nil, stores_var, opd_tmp, opd_at, val_tmp, val_atE, valD_def, see_fz, see_at, keep_fz, keep_at, give_fz, give_at, slotAt_def, varK_fz, varK_lst, idxK_fz, idxK_at, nodeK_fz, nodeK_lst, kidK_fz, kidK_lst, seeAll_nil, seeAll_cons, keepAll_nil, keepAll_cons, giveAll_nil, giveAll_cons, leave_tmp, leave_at, isLst_at, isAt_at, putAt_at, tgs_var, forL_nil, forL_cons, calling_none, calling_some, lend_noneE, lend_zero, lend_succ, lentK_fz, lentK_at, putBack_at, wpS, wpSet, wpOpt, wpIte, wpLeave, test_def, boolK_t, boolK_f, kid0, kid1, kid2, frz_fz, shal_fz, frz_nil, shal_nil, frz_ints, shal_ints, varK_dk, nodeK_dk, getAt_nil, getAt_dk0, setAt_nil, setAt_dk0, putD_dk2, negK_int, notK_bool, cmp_eqI, cmp_neI, cmp_ltI, cmp_leI, cmp_gtI, cmp_geI, cmp_neN, tru_bool, add_int, sub_int, bi_intI, bi_intB, bi_absI, rngK_2, limE, wpBoolK, behind_rt0, behind_rtN, if_true, if_false, Bool.false_eq_true, Bool.not_true, Bool.not_false, Bool.true_eq_false, List.isEmpty_nil, List.isEmpty_cons, decide_true, decide_false, List.isEmpty, Nat.zero_le, decide_eq_true_eq, List.getElem?_cons_zero, List.getElem?_cons_succ, List.set_cons_zero, List.set_cons_succ, List.length_cons, List.length_nil, List.map_cons, List.map_nil, List.cons_append, List.nil_append, List.replicate, Nat.reduceAdd, Nat.reduceSub, Nat.reduceLT, Nat.reduceLeDiff, true_and, and_true, seqD_list, valD_def]
      refine comp_inv (fun rest ys e => (∃ a, rest = intsL a) ∧ (∃ b, ys = intsL b ∧ b.length + rest.length ≤ 63) ∧ wipeE e [3] = [some (.fz (.list (intsL ns))), some (.fz (.list (intsL xs))), some (.fz (.int m)), none]) (fun d rest ys e h => ?_) ⟨⟨xs, rfl⟩, ⟨[], rfl, by rw [len_ints]; simpa using hx⟩, rfl⟩ (fun ys e h => ?_)
      · obtain ⟨⟨a, ha⟩, ⟨b, rfl, hb⟩, he⟩ := h
        cases a with
        | nil => cases ha
        | cons y a =>
          injection ha with h1 h2
          subst h1 h2
          rw [he]
          simp only [bind_bnd, wp_bnd, wp_ret, wp_bad, ev_var, ev_lit, ev_bin, ev_neg, ev_cmp, ev_and, ev_or, ev_not, ev_ite, ev_tup, ev_lst, ev_idx, ev_slc, ev_call, ev_kcall, ev_bi, ev_comp, ev_meth, evs_nil, evs_cons, evo_nil, evo_cons, evc_nil, evc_cons, evi_of, evi_rng, evi_enm, evi_zip, evi_rvs, exs_nil, exs_cons, ex_expr, ex_set, ex_unp, ex_par, ex_put, ex_ite, ex_whl, ex_fr, ex_rt, stores_nil, stores_var, opd_tmp, opd_at, val_tmp, val_atE, valD_def, see_fz, see_at, keep_fz, keep_at, give_fz, give_at, slotAt_def, varK_fz, varK_lst, idxK_fz, idxK_at, nodeK_fz, nodeK_lst, kidK_fz, kidK_lst, seeAll_nil, seeAll_cons, keepAll_nil, keepAll_cons, giveAll_nil, giveAll_cons, leave_tmp, leave_at, isLst_at, isAt_at, putAt_at, tgs_var, forL_nil, forL_cons, calling_none, calling_some, lend_noneE, lend_zero, lend_succ, lentK_fz, lentK_at, putBack_at, wpS, wpSet, wpOpt, wpIte, wpLeave, test_def, boolK_t, boolK_f, kid0, kid1, kid2, frz_fz, shal_fz, frz_nil, shal_nil, frz_ints, shal_ints, varK_dk, nodeK_dk, getAt_nil, getAt_dk0, setAt_nil, setAt_dk0, putD_dk2, negK_int, notK_bool, cmp_eqI, cmp_neI, cmp_ltI, cmp_leI, cmp_gtI, cmp_geI, cmp_neN, tru_bool, add_int, sub_int, bi_intI, bi_intB, bi_absI, rngK_2, limE, wpBoolK, behind_rt0, behind_rtN, if_true, if_false, Bool.false_eq_true, Bool.not_true, Bool.not_false, Bool.true_eq_false, List.isEmpty_nil, List.isEmpty_cons, decide_true, decide_false, List.isEmpty, Nat.zero_le, decide_eq_true_eq, List.getElem?_cons_zero, List.getElem?_cons_succ, List.set_cons_zero, List.set_cons_succ, List.length_cons, List.length_nil, List.map_cons, List.map_nil, List.cons_append, List.nil_append, List.replicate, Nat.reduceAdd, Nat.reduceSub, Nat.reduceLT, Nat.reduceLeDiff, true_and, and_true, e6, valD_def]
          by_cases g : (10 ^ 15 : Int) < y
          · simp only [g, bind_bnd, wp_bnd, wp_ret, wp_bad, ev_var, ev_lit, ev_bin, ev_neg, ev_cmp, ev_and, ev_or, ev_not, ev_ite, ev_tup, ev_lst, ev_idx, ev_slc, ev_call, ev_kcall, ev_bi, ev_comp, ev_meth, evs_nil, evs_cons, evo_nil, evo_cons, evc_nil, evc_cons, evi_of, evi_rng, evi_enm, evi_zip, evi_rvs, exs_nil, exs_cons, ex_expr, ex_set, ex_unp, ex_par, ex_put, ex_ite, ex_whl, ex_fr, ex_rt, stores_nil, stores_var, opd_tmp, opd_at, val_tmp, val_atE, valD_def, see_fz, see_at, keep_fz, keep_at, give_fz, give_at, slotAt_def, varK_fz, varK_lst, idxK_fz, idxK_at, nodeK_fz, nodeK_lst, kidK_fz, kidK_lst, seeAll_nil, seeAll_cons, keepAll_nil, keepAll_cons, giveAll_nil, giveAll_cons, leave_tmp, leave_at, isLst_at, isAt_at, putAt_at, tgs_var, forL_nil, forL_cons, calling_none, calling_some, lend_noneE, lend_zero, lend_succ, lentK_fz, lentK_at, putBack_at, wpS, wpSet, wpOpt, wpIte, wpLeave, test_def, boolK_t, boolK_f, kid0, kid1, kid2, frz_fz, shal_fz, frz_nil, shal_nil, frz_ints, shal_ints, varK_dk, nodeK_dk, getAt_nil, getAt_dk0, setAt_nil, setAt_dk0, putD_dk2, negK_int, notK_bool, cmp_eqI, cmp_neI, cmp_ltI, cmp_leI, cmp_gtI, cmp_geI, cmp_neN, tru_bool, add_int, sub_int, bi_intI, bi_intB, bi_absI, rngK_2, limE, wpBoolK, behind_rt0, behind_rtN, if_true, if_false, Bool.false_eq_true, Bool.not_true, Bool.not_false, Bool.true_eq_false, List.isEmpty_nil, List.isEmpty_cons, decide_true, decide_false, List.isEmpty, Nat.zero_le, decide_eq_true_eq, List.getElem?_cons_zero, List.getElem?_cons_succ, List.set_cons_zero, List.set_cons_succ, List.length_cons, List.length_nil, List.map_cons, List.map_nil, List.cons_append, List.nil_append, List.replicate, Nat.reduceAdd, Nat.reduceSub, Nat.reduceLT, Nat.reduceLeDiff, true_and, and_true]
            refine ⟨?_, ⟨a, rfl⟩, ⟨b ++ [y], by simp [intsL], by simp at hb ⊢; omega⟩, rfl⟩
            rw [len_ints]
            simp at hb
            omega
          · simp only [g, bind_bnd, wp_bnd, wp_ret, wp_bad, ev_var, ev_lit, ev_bin, ev_neg, ev_cmp, ev_and, ev_or, ev_not, ev_ite, ev_tup, ev_lst, ev_idx, ev_slc, ev_call, ev_kcall, ev_bi, ev_comp, ev_meth, evs_nil, evs_cons, evo_nil, evo_cons, evc_nil, evc_cons, evi_of, evi_rng, evi_enm, evi_zip, evi_rvs, exs_nil, exs_cons, ex_expr, ex_set, ex_unp, ex_par, ex_put, ex_ite, ex_whl, ex_fr, ex_rt, stores_nil, stores_var, opd_tmp, opd_at, val_tmp, val_atE, valD_def, see_fz, see_at, keep_fz, keep_at, give_fz, give_at, slotAt_def, varK_fz, varK_lst, idxK_fz, idxK_at, nodeK_fz, nodeK_lst, kidK_fz, kidK_lst, seeAll_nil, seeAll_cons, keepAll_nil, keepAll_cons, giveAll_nil, giveAll_cons, leave_tmp, leave_at, isLst_at, isAt_at, putAt_at, tgs_var, forL_nil, forL_cons, calling_none, calling_some, lend_noneE, lend_zero, lend_succ, lentK_fz, lentK_at, putBack_at, wpS, wpSet, wpOpt, wpIte, wpLeave, test_def, boolK_t, boolK_f, kid0, kid1, kid2, frz_fz, shal_fz, frz_nil, shal_nil, frz_ints, shal_ints, varK_dk, nodeK_dk, getAt_nil, getAt_dk0, setAt_nil, setAt_dk0, putD_dk2, negK_int, notK_bool, cmp_eqI, cmp_neI, cmp_ltI, cmp_leI, cmp_gtI, cmp_geI, cmp_neN, tru_bool, add_int, sub_int, bi_intI, bi_intB, bi_absI, rngK_2, limE, wpBoolK, behind_rt0, behind_rtN, if_true, if_false, Bool.false_eq_true, Bool.not_true, Bool.not_false, Bool.true_eq_false, List.isEmpty_nil, List.isEmpty_cons, decide_true, decide_false, List.isEmpty, Nat.zero_le, decide_eq_true_eq, List.getElem?_cons_zero, List.getElem?_cons_succ, List.set_cons_zero, List.set_cons_succ, List.length_cons, List.length_nil, List.map_cons, List.map_nil, List.cons_append, List.nil_append, List.replicate, Nat.reduceAdd, Nat.reduceSub, Nat.reduceLT, Nat.reduceLeDiff, true_and, and_true]
            exact ⟨⟨a, rfl⟩, ⟨b, rfl, by simp at hb ⊢; omega⟩, rfl⟩
      · obtain ⟨_, ⟨b, rfl, hb⟩, he⟩ := h
        rw [rest_wiped, he]
        simp only [restore, bind_bnd, wp_bnd, wp_ret, wp_bad, ev_var, ev_lit, ev_bin, ev_neg, ev_cmp, ev_and, ev_or, ev_not, ev_ite, ev_tup, ev_lst, ev_idx, ev_slc, ev_call, ev_kcall, ev_bi, ev_comp, ev_meth, evs_nil, evs_cons, evo_nil, evo_cons, evc_nil, evc_cons, evi_of, evi_rng, evi_enm, evi_zip, evi_rvs, exs_nil, exs_cons, ex_expr, ex_set, ex_unp, ex_par, ex_put, ex_ite, ex_whl, ex_fr, ex_rt, stores_nil, stores_var, opd_tmp, opd_at, val_tmp, val_atE, valD_def, see_fz, see_at, keep_fz, keep_at, give_fz, give_at, slotAt_def, varK_fz, varK_lst, idxK_fz, idxK_at, nodeK_fz, nodeK_lst, kidK_fz, kidK_lst, seeAll_nil, seeAll_cons, keepAll_nil, keepAll_cons, giveAll_nil, giveAll_cons, leave_tmp, leave_at, isLst_at, isAt_at, putAt_at, tgs_var, forL_nil, forL_cons, calling_none, calling_some, lend_noneE, lend_zero, lend_succ, lentK_fz, lentK_at, putBack_at, wpS, wpSet, wpOpt, wpIte, wpLeave, test_def, boolK_t, boolK_f, kid0, kid1, kid2, frz_fz, shal_fz, frz_nil, shal_nil, frz_ints, shal_ints, varK_dk, nodeK_dk, getAt_nil, getAt_dk0, setAt_nil, setAt_dk0, putD_dk2, negK_int, notK_bool, cmp_eqI, cmp_neI, cmp_ltI, cmp_leI, cmp_gtI, cmp_geI, cmp_neN, tru_bool, add_int, sub_int, bi_intI, bi_intB, bi_absI, rngK_2, limE, wpBoolK, behind_rt0, behind_rtN, if_true, if_false, Bool.false_eq_true, Bool.not_true, Bool.not_false, Bool.true_eq_false, List.isEmpty_nil, List.isEmpty_cons, decide_true, decide_false, List.isEmpty, Nat.zero_le, decide_eq_true_eq, List.getElem?_cons_zero, List.getElem?_cons_succ, List.set_cons_zero, List.set_cons_succ, List.length_cons, List.length_nil, List.map_cons, List.map_nil, List.cons_append, List.nil_append, List.replicate, Nat.reduceAdd, Nat.reduceSub, Nat.reduceLT, Nat.reduceLeDiff, true_and, and_true]
        exact ⟨b, _, _, rfl, by simpa using hb⟩
end HW
end

section
set_option linter.all false
set_option maxHeartbeats 1000000
/-! # Plain: bits and columns -/
namespace HW
open PySem PyProof.Rows PySem.W
def bit (x : Int) (k : Nat) : Int := x / 2 ^ k % 2
theorem bit01 (x : Int) (k : Nat) : bit x k = 0 ∨ bit x k = 1 := by unfold bit; omega
theorem bit_and1 (x : Int) : Builtin.bitAnd x 1 = x % 2 := bitAnd_m1 x
/-- the column k of words -/
def colV : List Int → Nat → Int
  | [], _ => 0
  | w :: ws, k => bit w k + 2 * colV ws k
theorem colV_nonneg : ∀ (ws : List Int) (k : Nat), 0 ≤ colV ws k
  | [], _ => Int.le_refl 0
  | w :: ws, k => by
    have h1 := bit01 w k
    have h2 := colV_nonneg ws k
    show 0 ≤ bit w k + 2 * colV ws k
    omega
theorem colV_lt : ∀ (ws : List Int) (k : Nat), colV ws k < 2 ^ ws.length
  | [], _ => by show (0 : Int) < 2 ^ 0; decide
  | w :: ws, k => by
    have h1 := bit01 w k
    have h2 := colV_lt ws k
    show bit w k + 2 * colV ws k < 2 ^ (ws.length + 1)
    rw [Int.pow_succ]
    omega
theorem colV_snoc (w : Int) (k : Nat) : ∀ ws : List Int, colV (ws ++ [w]) k = colV ws k + bit w k * 2 ^ ws.length
  | [] => by show bit w k + 2 * 0 = 0 + bit w k * 2 ^ 0; simp
  | v :: ws => by
    have ih := colV_snoc w k ws
    show bit v k + 2 * colV (ws ++ [w]) k = bit v k + 2 * colV ws k + bit w k * 2 ^ (ws.length + 1)
    rw [ih, Int.pow_succ]
    have e : bit w k * (2 ^ ws.length * 2) = 2 * (bit w k * 2 ^ ws.length) := by
      rw [Int.mul_comm (2 ^ ws.length : Int) 2, ← Int.mul_assoc, Int.mul_comm (bit w k) 2, Int.mul_assoc]
    rw [e]; omega
theorem or_add {x b : Int} {k : Nat} (h0 : 0 ≤ x) (h1 : x < 2 ^ k) (hb : b = 0 ∨ b = 1) : Builtin.bitOr x (b * 2 ^ k) = x + b * 2 ^ k := by
  rw [bitOr_and]
  have : Builtin.bitAnd x (b * 2 ^ k) = 0 := by
    rcases hb with rfl | rfl
    · rw [Int.zero_mul]; exact bitAnd_zero x
    · rw [Int.one_mul, kbt_bit, Int.ediv_eq_zero_of_lt h0 h1]; simp
  omega
theorem bit_zero (k : Nat) : bit 0 k = 0 := by unfold bit; simp
/-- bits of a column -/
theorem bit_colV : ∀ (ws : List Int) (k i : Nat) (w : Int), ws[i]? = some w → bit (colV ws k) i = bit w k
  | [], _, _, _, h => by simp at h
  | v :: ws, k, 0, w, h => by
    simp at h
    subst h
    have h1 := bit01 v k
    show (bit v k + 2 * colV ws k) / 2 ^ 0 % 2 = bit v k
    simp
    omega
  | v :: ws, k, i + 1, w, h => by
    have ih := bit_colV ws k i w (by simpa using h)
    have h1 := bit01 v k
    show (bit v k + 2 * colV ws k) / 2 ^ (i + 1) % 2 = bit w k
    have e : (bit v k + 2 * colV ws k) / 2 ^ (i + 1) = colV ws k / 2 ^ i := by
      have : (2 : Int) ^ (i + 1) = 2 * 2 ^ i := by rw [Int.pow_succ, Int.mul_comm]
      rw [this, ← Int.ediv_ediv_of_nonneg (by decide)]
      congr 1
      omega
    rw [e]
    exact ih
/-- a word from its bits -/
theorem bits_sum (x : Int) : ∀ w : Nat, colV ((List.range w).map fun k => bit x k) 0 = x % 2 ^ w
  | 0 => by show (0 : Int) = x % 2 ^ 0; simp
  | w + 1 => by
    rw [List.range_succ, List.map_append]
    show colV ((List.range w).map (fun k => bit x k) ++ [bit x w]) 0 = _
    rw [colV_snoc, bits_sum x w, List.length_map, List.length_range]
    have hb : bit (bit x w) 0 = bit x w := by
      have := bit01 x w
      show bit x w / 2 ^ 0 % 2 = bit x w
      simp
      omega
    rw [hb]
    unfold bit
    have hp : (0 : Int) < 2 ^ w := kbt_pos w
    rw [Int.pow_succ]
    have h1 := Int.emod_add_mul_ediv x (2 ^ w)
    have h2 := Int.emod_add_mul_ediv (x / 2 ^ w) 2
    have h3 := Int.emod_nonneg x (show (2 : Int) ^ w ≠ 0 by omega)
    have h4 := Int.emod_lt_of_pos x hp
    have h5 : x / 2 ^ w % 2 = 0 ∨ x / 2 ^ w % 2 = 1 := by omega
    refine (kbt_unique (a := x) (b := 2 ^ w * 2) (q := x / 2 ^ w / 2) (by omega) ?_ ?_ ?_).2.symm
    · have e1 : (2 : Int) ^ w * 2 * (x / 2 ^ w / 2) = 2 ^ w * (2 * (x / 2 ^ w / 2)) := Int.mul_assoc ..
      have e2 : x / 2 ^ w % 2 * 2 ^ w = 2 ^ w * (x / 2 ^ w % 2) := Int.mul_comm ..
      rw [e1, e2, Int.add_assoc, ← Int.mul_add, h2, h1]
    · rcases h5 with e | e <;> rw [e] <;> omega
    · rcases h5 with e | e <;> rw [e] <;> omega
end HW
end

section
set_option linter.all false
set_option maxHeartbeats 4000000
set_option maxRecDepth 100000
/-! # Plain: columns, states -/
namespace HW
open PySem PyProof.Rows PySem.W
theorem tgs_two {i j : Nat} {a b : PyData} : tgs (.tup [.var i, .var j]) (.tuple [a, b]) = bnd (setSlot i (.fz a)) fun _ => bnd (setSlot j (.fz b)) fun _ => ret () := rfl
theorem enumL_nil {n : Nat} : enumL n [] = [] := rfl
theorem enumL_cons {n : Nat} {d : PyData} {ds : List PyData} : enumL n (d :: ds) = .tuple [.int n, d] :: enumL (n + 1) ds := rfl
theorem shr_int {i : Int} {k : Nat} : binD .shr (.int i) (.int (k : Int)) = some (.fz (.int (i / 2 ^ k))) := by
  show ((if 0 ≤ (k : Int) then some (i / 2 ^ (k : Int).toNat) else none).map fun k => OD.fz (.int k)) = _
  rw [if_pos (Int.natCast_nonneg k), Int.toNat_natCast]; rfl
theorem shl_int {i : Int} {k : Nat} (h : i.natAbs < 2 ^ 64) (hk : k ≤ 1000000) : binD .shl (.int i) (.int (k : Int)) = some (.fz (.int (i * 2 ^ k))) := by
  have : powOk i (k : Int) = true := by
    unfold powOk
    rw [decide_eq_true (Int.natCast_nonneg k), decide_eq_true (show (k : Int) ≤ 1000000 by omega), decide_eq_true h]; rfl
  show ((if powOk i k then some (i * 2 ^ (k : Int).toNat) else none).map fun k => OD.fz (.int k)) = _
  rw [if_pos this, Int.toNat_natCast]; rfl
theorem and_int {i j : Int} : binD .band (.int i) (.int j) = some (.fz (.int (Builtin.bitAnd i j))) := rfl
theorem or_int {i j : Int} : binD .bor (.int i) (.int j) = some (.fz (.int (Builtin.bitOr i j))) := rfl
theorem xor_int {i j : Int} : binD .bxor (.int i) (.int j) = some (.fz (.int (Builtin.bitXor i j))) := rfl
theorem bit_lt {x : Int} {k : Nat} : (x / 2 ^ k % 2).natAbs < 2 ^ 64 := by
  have : x / 2 ^ k % 2 = 0 ∨ x / 2 ^ k % 2 = 1 := by omega
  rcases this with e | e <;> rw [e] <;> decide
theorem column_of_ok {G : Nat → Option Fn} (hG : G i_column_of = some f_column_of) (ws : List Int) (k : Nat) (hl : ws.length ≤ 1000) {n : Nat} (hn : 1 ≤ n) : callN G n i_column_of [.fz (.tuple (intsL ws)), .fz (.int k)] = .ok (.fz (.int (colV ws k))) none := by
  obtain ⟨n, rfl⟩ : ∃ m, n = m + 1 := ⟨n - 1, by omega⟩
  rw [call_fn hG rfl]
  refine behind_wp (P := fun res => res = .ok (.fz (.int (colV ws k))) none) ?_
  simp only [f_column_of, bind_bnd, wp_bnd, wp_ret, wp_bad, ev_var, ev_lit, ev_bin, ev_neg, ev_cmp, ev_and, ev_or, ev_not, ev_ite, ev_tup, ev_lst, ev_idx, ev_slc, ev_call, ev_kcall, ev_bi, ev_comp, ev_meth, evs_nil, evs_cons, evo_nil, evo_cons, evc_nil, evc_cons, evi_of, evi_rng, evi_enm, evi_zip, evi_rvs, exs_nil, exs_cons, ex_expr, ex_set, ex_unp, ex_par, ex_put, ex_ite, ex_whl, ex_fr, ex_rt, stores_nil, stores_var, opd_tmp, opd_at, val_tmp, val_atE, valD_def, see_fz, see_at, keep_fz, keep_at, give_fz, give_at, slotAt_def, varK_fz, varK_lst, idxK_fz, idxK_at, nodeK_fz, nodeK_lst, kidK_fz, kidK_lst, seeAll_nil, seeAll_cons, keepAll_nil, keepAll_cons, giveAll_nil, giveAll_cons, leave_tmp, leave_at, isLst_at, isAt_at, putAt_at, tgs_var, forL_nil, forL_cons, calling_none, calling_some, lend_noneE, lend_zero, lend_succ, lentK_fz, lentK_at, putBack_at, wpS, wpSet, wpOpt, wpIte, wpLeave, test_def, boolK_t, boolK_f, kid0, kid1, kid2, frz_fz, shal_fz, frz_nil, shal_nil, frz_ints, shal_ints, varK_dk, nodeK_dk, getAt_nil, getAt_dk0, setAt_nil, setAt_dk0, putD_dk2, negK_int, notK_bool, cmp_eqI, cmp_neI, cmp_ltI, cmp_leI, cmp_gtI, cmp_geI, cmp_neN, tru_bool, add_int, sub_int, bi_intI, bi_intB, bi_absI, rngK_2, limE, wpBoolK, behind_rt0, behind_rtN, if_true, if_false, Bool.false_eq_true, Bool.not_true, Bool.not_false, Bool.true_eq_false, List.isEmpty_nil, List.isEmpty_cons, decide_true, decide_false, List.isEmpty, Nat.zero_le, decide_eq_true_eq, List.getElem?_cons_zero, List.getElem?_cons_succ, List.set_cons_zero, List.set_cons_succ, List.length_cons, List.length_nil, List.map_cons, List.map_nil, List.cons_append, List.nil_append, List.replicate, Nat.reduceAdd, Nat.reduceSub, Nat.reduceLT, Nat.reduceLeDiff, true_and, and_true, valD_def, seqD_tup]
  refine for_inv (fun rest e => ∃ pre post x y, ws = pre ++ post ∧ rest = enumL pre.length (intsL post) ∧ e = [some (.fz (.tuple (intsL ws))), some (.fz (.int k)), some (.fz (.int (colV pre k))), x, y]) (fun d ds e h => ?_) (fun e h => ?_) _ _ ⟨[], ws, none, none, rfl, rfl, rfl⟩
  · obtain ⟨pre, post, x, y, hw, hr, rfl⟩ := h
    cases post with
    | nil => cases hr
    | cons w post =>
      injection hr with h1 h2
      subst h1 h2
      have hp : pre.length ≤ 1000 := by rw [hw] at hl; simp at hl; omega
      have s1 : binD .shl (.int (w / 2 ^ k % 2)) (.int (pre.length : Int)) = some (.fz (.int (w / 2 ^ k % 2 * 2 ^ pre.length))) := shl_int bit_lt (by omega)
      have s2 : Builtin.bitOr (colV pre k) (w / 2 ^ k % 2 * 2 ^ pre.length) = colV (pre ++ [w]) k := by
        rw [colV_snoc]; exact or_add (colV_nonneg pre k) (colV_lt pre k) (bit01 w k)
      simp only [bind_bnd, wp_bnd, wp_ret, wp_bad, ev_var, ev_lit, ev_bin, ev_neg, ev_cmp, ev_and, ev_or, ev_not, ev_ite, ev_tup, ev_lst, ev_idx, ev_slc, ev_call, ev_kcall, ev_bi, ev_comp, ev_meth, evs_nil, evs_cons, evo_nil, evo_cons, evc_nil, evc_cons, evi_of, evi_rng, evi_enm, evi_zip, evi_rvs, exs_nil, exs_cons, ex_expr, ex_set, ex_unp, ex_par, ex_put, ex_ite, ex_whl, ex_fr, ex_rt, stores_nil, stores_var, opd_tmp, opd_at, val_tmp, val_atE, valD_def, see_fz, see_at, keep_fz, keep_at, give_fz, give_at, slotAt_def, varK_fz, varK_lst, idxK_fz, idxK_at, nodeK_fz, nodeK_lst, kidK_fz, kidK_lst, seeAll_nil, seeAll_cons, keepAll_nil, keepAll_cons, giveAll_nil, giveAll_cons, leave_tmp, leave_at, isLst_at, isAt_at, putAt_at, tgs_var, forL_nil, forL_cons, calling_none, calling_some, lend_noneE, lend_zero, lend_succ, lentK_fz, lentK_at, putBack_at, wpS, wpSet, wpOpt, wpIte, wpLeave, test_def, boolK_t, boolK_f, kid0, kid1, kid2, frz_fz, shal_fz, frz_nil, shal_nil, frz_ints, shal_ints, varK_dk, nodeK_dk, getAt_nil, getAt_dk0, setAt_nil, setAt_dk0, putD_dk2, negK_int, notK_bool, cmp_eqI, cmp_neI, cmp_ltI, cmp_leI, cmp_gtI, cmp_geI, cmp_neN, tru_bool, add_int, sub_int, bi_intI, bi_intB, bi_absI, rngK_2, limE, wpBoolK, behind_rt0, behind_rtN, if_true, if_false, Bool.false_eq_true, Bool.not_true, Bool.not_false, Bool.true_eq_false, List.isEmpty_nil, List.isEmpty_cons, decide_true, decide_false, List.isEmpty, Nat.zero_le, decide_eq_true_eq, List.getElem?_cons_zero, List.getElem?_cons_succ, List.set_cons_zero, List.set_cons_succ, List.length_cons, List.length_nil, List.map_cons, List.map_nil, List.cons_append, List.nil_append, List.replicate, Nat.reduceAdd, Nat.reduceSub, Nat.reduceLT, Nat.reduceLeDiff, true_and, and_true, tgs_two, shr_int, and_int, bit_and1, s1, or_int, s2]
      exact ⟨pre ++ [w], post, _, _, by rw [hw]; simp, by rw [List.length_append]; rfl, rfl⟩
  · obtain ⟨pre, post, x, y, hw, hr, rfl⟩ := h
    cases post with
    | nil =>
      rw [List.append_nil] at hw
      subst hw
      simp only [bind_bnd, wp_bnd, wp_ret, wp_bad, ev_var, ev_lit, ev_bin, ev_neg, ev_cmp, ev_and, ev_or, ev_not, ev_ite, ev_tup, ev_lst, ev_idx, ev_slc, ev_call, ev_kcall, ev_bi, ev_comp, ev_meth, evs_nil, evs_cons, evo_nil, evo_cons, evc_nil, evc_cons, evi_of, evi_rng, evi_enm, evi_zip, evi_rvs, exs_nil, exs_cons, ex_expr, ex_set, ex_unp, ex_par, ex_put, ex_ite, ex_whl, ex_fr, ex_rt, stores_nil, stores_var, opd_tmp, opd_at, val_tmp, val_atE, valD_def, see_fz, see_at, keep_fz, keep_at, give_fz, give_at, slotAt_def, varK_fz, varK_lst, idxK_fz, idxK_at, nodeK_fz, nodeK_lst, kidK_fz, kidK_lst, seeAll_nil, seeAll_cons, keepAll_nil, keepAll_cons, giveAll_nil, giveAll_cons, leave_tmp, leave_at, isLst_at, isAt_at, putAt_at, tgs_var, forL_nil, forL_cons, calling_none, calling_some, lend_noneE, lend_zero, lend_succ, lentK_fz, lentK_at, putBack_at, wpS, wpSet, wpOpt, wpIte, wpLeave, test_def, boolK_t, boolK_f, kid0, kid1, kid2, frz_fz, shal_fz, frz_nil, shal_nil, frz_ints, shal_ints, varK_dk, nodeK_dk, getAt_nil, getAt_dk0, setAt_nil, setAt_dk0, putD_dk2, negK_int, notK_bool, cmp_eqI, cmp_neI, cmp_ltI, cmp_leI, cmp_gtI, cmp_geI, cmp_neN, tru_bool, add_int, sub_int, bi_intI, bi_intB, bi_absI, rngK_2, limE, wpBoolK, behind_rt0, behind_rtN, if_true, if_false, Bool.false_eq_true, Bool.not_true, Bool.not_false, Bool.true_eq_false, List.isEmpty_nil, List.isEmpty_cons, decide_true, decide_false, List.isEmpty, Nat.zero_le, decide_eq_true_eq, List.getElem?_cons_zero, List.getElem?_cons_succ, List.set_cons_zero, List.set_cons_succ, List.length_cons, List.length_nil, List.map_cons, List.map_nil, List.cons_append, List.nil_append, List.replicate, Nat.reduceAdd, Nat.reduceSub, Nat.reduceLT, Nat.reduceLeDiff, true_and, and_true]
    | cons w post => cases hr
theorem rngK_one {n : Int} : rngK [.int n] = if rngOk n then ret (rngL 0 n.toNat 1) else bad := rfl
theorem rngOk_nat {w : Nat} (h : w ≤ 1000000) : rngOk (w : Int) = true := by
  unfold rngOk
  rw [Bool.and_eq_true]
  exact ⟨decide_eq_true (by omega), decide_eq_true (by omega)⟩
theorem rngL_nat (w : Nat) : rngL 0 w 1 = intsL ((List.range w).map fun (k : Nat) => (k : Int)) := by
  unfold rngL intsL
  rw [List.map_map]
  apply List.map_congr_left
  intro k _
  show PyData.int (0 + (k : Int) * 1) = PyData.int (k : Int)
  rw [Int.mul_one, Int.zero_add]
theorem rngK_nat {w : Nat} (h : w ≤ 1000000) : rngK [.int (w : Int)] = ret (intsL ((List.range w).map fun (k : Nat) => (k : Int))) := by
  rw [rngK_one, rngOk_nat h, Int.toNat_natCast, rngL_nat]
  exact if_pos rfl
theorem bi_tupL {ds : List PyData} : biD .tuple [.list ds] = some (.fz (.tuple ds)) := rfl
theorem bi_tupT {ds : List PyData} : biD .tuple [.tuple ds] = some (.fz (.tuple ds)) := rfl
theorem bi_lisT {ds : List PyData} : biD .list [.tuple ds] = some (fzs ds) := rfl
theorem shal_fzs' {ds : List PyData} : shal (fzs ds) = some (.list ds) := shal_fzs ds
theorem kA_tuple {ps : List Opd} : biArgs .tuple ps = keepAll ps := rfl
theorem kA_list {ps : List Opd} : biArgs .list ps = keepAll ps := rfl
theorem sA_sum {ps : List Opd} : biArgs .sum ps = seeAll ps := rfl
theorem intsOf_ints : ∀ cs : List Int, intsOf (intsL cs) = some cs
  | [] => rfl
  | c :: cs => by show (intsOf (intsL cs)).map (fun is => c :: is) = _; rw [intsOf_ints cs]; rfl
theorem bi_sumL {cs : List Int} : biD .sum [.list (intsL cs)] = some (.fz (.int cs.sum)) := by
  show (intsOf (intsL cs)).map (fun is => OD.fz (.int is.sum)) = _
  rw [intsOf_ints]; rfl
def cols (w : Nat) (ws : List Int) : List Int := (List.range w).map fun k => colV ws k
theorem cols_len {w : Nat} {ws : List Int} : (cols w ws).length = w := by simp [cols]
theorem range_mem {d : PyData} {w : Nat} (h : d ∈ intsL ((List.range w).map fun (k : Nat) => (k : Int))) : ∃ k : Nat, k < w ∧ d = .int k := by
  obtain ⟨c, h1, h2⟩ := mem_ints h
  obtain ⟨k, h3, h4⟩ := List.mem_map.mp h1
  exact ⟨k, List.mem_range.mp h3, by rw [h2, ← h4]⟩
theorem muN {G : Nat → Option Fn} {i : Nat} {np ns : Nat} {body : List S} (h : G i = some ⟨none, np, ns, body⟩) : ((G i).bind fun x => x.mu) = none := by rw [h]; rfl
end HW
end

section
set_option linter.all false
set_option maxHeartbeats 4000000
set_option maxRecDepth 4000
namespace HW
open PySem PyProof.Rows PySem.W
theorem call_wp {G : Nat → Option Fn} {n g : Nat} {fn : Fn} {os : List OD} {res : CRes} (h : G g = some fn) (hl : os.length = fn.np) (w : wp (exs (fun g => (G g).bind (·.mu)) (callN G n) fn.body) (os.map some ++ List.replicate (fn.ns - fn.np) none) fun f e' => behind fn (.ok f e') = res) : callN G (n + 1) g os = res := by
  rw [call_fn h hl]
  obtain ⟨a, e', z, p⟩ := wp_ok w
  rw [z]; exact p
def colF (ws : List Int) : PyData → PyData
  | .int k => .int (colV ws k.toNat)
  | d => d
theorem columns_of_ok {G : Nat → Option Fn} (h0 : G i_column_of = some f_column_of) (hG : G i_columns_of = some f_columns_of) (ws : List Int) (w : Nat) {W : Int} (hW : W = w) (hw : w ≤ 1000) (hl : ws.length ≤ 1000) {n : Nat} (hn : 2 ≤ n) :
    callN G n i_columns_of [.fz (.int W), .fz (.tuple (intsL ws))] = .ok (.fz (.tuple (intsL (cols w ws)))) none := by
  obtain ⟨n, rfl⟩ : ∃ m, n = m + 1 := ⟨n - 1, by omega⟩
  have m0 := muN h0
  have hr : rngK [.int W] = ret (intsL ((List.range w).map fun (k : Nat) => (k : Int))) := by rw [hW]; exact rngK_nat (by omega)
  clear hW
  refine call_wp hG rfl ?_
  simp only [f_columns_of, bind_bnd, wp_bnd, wp_ret, wp_bad, ev_var, ev_lit, ev_bin, ev_neg, ev_cmp, ev_and, ev_or, ev_not, ev_ite, ev_tup, ev_lst, ev_idx, ev_slc, ev_call, ev_kcall, ev_bi, ev_comp, ev_meth, evs_nil, evs_cons, evo_nil, evo_cons, evc_nil, evc_cons, evi_of, evi_rng, evi_enm, evi_zip, evi_rvs, exs_nil, exs_cons, ex_expr, ex_set, ex_unp, ex_par, ex_put, ex_ite, ex_whl, ex_fr, ex_rt, stores_nil, stores_var, opd_tmp, opd_at, val_tmp, val_atE, valD_def, see_fz, see_at, keep_fz, keep_at, give_fz, give_at, slotAt_def, varK_fz, varK_lst, idxK_fz, idxK_at, nodeK_fz, nodeK_lst, kidK_fz, kidK_lst, seeAll_nil, seeAll_cons, keepAll_nil, keepAll_cons, giveAll_nil, giveAll_cons, leave_tmp, leave_at, isLst_at, isAt_at, putAt_at, tgs_var, forL_nil, forL_cons, calling_none, calling_some, lend_noneE, lend_zero, lend_succ, lentK_fz, lentK_at, putBack_at, wpS, wpSet, wpOpt, wpIte, wpLeave, test_def, boolK_t, boolK_f, kid0, kid1, kid2, frz_fz, shal_fz, frz_nil, shal_nil, frz_ints, shal_ints, varK_dk, nodeK_dk, getAt_nil, getAt_dk0, setAt_nil, setAt_dk0, putD_dk2, negK_int, notK_bool, cmp_eqI, cmp_neI, cmp_ltI, cmp_leI, cmp_gtI, cmp_geI, cmp_neN, tru_bool, add_int, sub_int, bi_intI, bi_intB, bi_absI, rngK_2, limE, wpBoolK, behind_rt0, behind_rtN, if_true, if_false, Bool.false_eq_true, Bool.not_true, Bool.not_false, Bool.true_eq_false, List.isEmpty_nil, List.isEmpty_cons, decide_true, decide_false, List.isEmpty, Nat.zero_le, decide_eq_true_eq, List.getElem?_cons_zero, List.getElem?_cons_succ, List.set_cons_zero, List.set_cons_succ, List.length_cons, List.length_nil, List.map_cons, List.map_nil, List.cons_append, List.nil_append, List.replicate, Nat.reduceAdd, Nat.reduceSub, Nat.reduceLT, Nat.reduceLeDiff, true_and, and_true, valD_def, hr, m0]
  have key : (intsL ((List.range w).map fun (k : Nat) => (k : Int))).map (colF ws) = intsL (cols w ws) := by
    unfold intsL cols
    rw [List.map_map, List.map_map, List.map_map]
    apply List.map_congr_left
    intro k _
    rfl
  refine comp_map (colF ws) rfl (by rw [len_ints, List.length_map, List.length_range]; exact lim_big hw) (fun d hd => ?_) ?_
  · obtain ⟨k, hk, rfl⟩ := range_mem hd
    simp only [bind_bnd, wp_bnd, wp_ret, wp_bad, ev_var, ev_lit, ev_bin, ev_neg, ev_cmp, ev_and, ev_or, ev_not, ev_ite, ev_tup, ev_lst, ev_idx, ev_slc, ev_call, ev_kcall, ev_bi, ev_comp, ev_meth, evs_nil, evs_cons, evo_nil, evo_cons, evc_nil, evc_cons, evi_of, evi_rng, evi_enm, evi_zip, evi_rvs, exs_nil, exs_cons, ex_expr, ex_set, ex_unp, ex_par, ex_put, ex_ite, ex_whl, ex_fr, ex_rt, stores_nil, stores_var, opd_tmp, opd_at, val_tmp, val_atE, valD_def, see_fz, see_at, keep_fz, keep_at, give_fz, give_at, slotAt_def, varK_fz, varK_lst, idxK_fz, idxK_at, nodeK_fz, nodeK_lst, kidK_fz, kidK_lst, seeAll_nil, seeAll_cons, keepAll_nil, keepAll_cons, giveAll_nil, giveAll_cons, leave_tmp, leave_at, isLst_at, isAt_at, putAt_at, tgs_var, forL_nil, forL_cons, calling_none, calling_some, lend_noneE, lend_zero, lend_succ, lentK_fz, lentK_at, putBack_at, wpS, wpSet, wpOpt, wpIte, wpLeave, test_def, boolK_t, boolK_f, kid0, kid1, kid2, frz_fz, shal_fz, frz_nil, shal_nil, frz_ints, shal_ints, varK_dk, nodeK_dk, getAt_nil, getAt_dk0, setAt_nil, setAt_dk0, putD_dk2, negK_int, notK_bool, cmp_eqI, cmp_neI, cmp_ltI, cmp_leI, cmp_gtI, cmp_geI, cmp_neN, tru_bool, add_int, sub_int, bi_intI, bi_intB, bi_absI, rngK_2, limE, wpBoolK, behind_rt0, behind_rtN, if_true, if_false, Bool.false_eq_true, Bool.not_true, Bool.not_false, Bool.true_eq_false, List.isEmpty_nil, List.isEmpty_cons, decide_true, decide_false, List.isEmpty, Nat.zero_le, decide_eq_true_eq, List.getElem?_cons_zero, List.getElem?_cons_succ, List.set_cons_zero, List.set_cons_succ, List.length_cons, List.length_nil, List.map_cons, List.map_nil, List.cons_append, List.nil_append, List.replicate, Nat.reduceAdd, Nat.reduceSub, Nat.reduceLT, Nat.reduceLeDiff, true_and, and_true, calling_none, lend_noneE, column_of_ok h0 ws k hl (show 1 ≤ n by omega), valD_def]
    exact ⟨rfl, rfl⟩
  · rw [key]
    simp only [bind_bnd, wp_bnd, wp_ret, wp_bad, ev_var, ev_lit, ev_bin, ev_neg, ev_cmp, ev_and, ev_or, ev_not, ev_ite, ev_tup, ev_lst, ev_idx, ev_slc, ev_call, ev_kcall, ev_bi, ev_comp, ev_meth, evs_nil, evs_cons, evo_nil, evo_cons, evc_nil, evc_cons, evi_of, evi_rng, evi_enm, evi_zip, evi_rvs, exs_nil, exs_cons, ex_expr, ex_set, ex_unp, ex_par, ex_put, ex_ite, ex_whl, ex_fr, ex_rt, stores_nil, stores_var, opd_tmp, opd_at, val_tmp, val_atE, valD_def, see_fz, see_at, keep_fz, keep_at, give_fz, give_at, slotAt_def, varK_fz, varK_lst, idxK_fz, idxK_at, nodeK_fz, nodeK_lst, kidK_fz, kidK_lst, seeAll_nil, seeAll_cons, keepAll_nil, keepAll_cons, giveAll_nil, giveAll_cons, leave_tmp, leave_at, isLst_at, isAt_at, putAt_at, tgs_var, forL_nil, forL_cons, calling_none, calling_some, lend_noneE, lend_zero, lend_succ, lentK_fz, lentK_at, putBack_at, wpS, wpSet, wpOpt, wpIte, wpLeave, test_def, boolK_t, boolK_f, kid0, kid1, kid2, frz_fz, shal_fz, frz_nil, shal_nil, frz_ints, shal_ints, varK_dk, nodeK_dk, getAt_nil, getAt_dk0, setAt_nil, setAt_dk0, putD_dk2, negK_int, notK_bool, cmp_eqI, cmp_neI, cmp_ltI, cmp_leI, cmp_gtI, cmp_geI, cmp_neN, tru_bool, add_int, sub_int, bi_intI, bi_intB, bi_absI, rngK_2, limE, wpBoolK, behind_rt0, behind_rtN, if_true, if_false, Bool.false_eq_true, Bool.not_true, Bool.not_false, Bool.true_eq_false, List.isEmpty_nil, List.isEmpty_cons, decide_true, decide_false, List.isEmpty, Nat.zero_le, decide_eq_true_eq, List.getElem?_cons_zero, List.getElem?_cons_succ, List.set_cons_zero, List.set_cons_succ, List.length_cons, List.length_nil, List.map_cons, List.map_nil, List.cons_append, List.nil_append, List.replicate, Nat.reduceAdd, Nat.reduceSub, Nat.reduceLT, Nat.reduceLeDiff, true_and, and_true, frz_fzs', kA_tuple, bi_tupL]
end HW
end

section
set_option linter.all false
set_option maxHeartbeats 4000000
set_option maxRecDepth 4000
namespace HW
open PySem PyProof.Rows PySem.W
/-- the terms of a word's sum -/
def terms (i : Nat) : Nat → List Int → List Int
  | _, [] => []
  | k, c :: cs => bit c i * 2 ^ k :: terms i (k + 1) cs
theorem terms_sum (i : Nat) : ∀ (cs : List Int) (k : Nat), (terms i k cs).sum = 2 ^ k * colV cs i
  | [], k => by simp [terms, colV]
  | c :: cs, k => by
    show (bit c i * 2 ^ k :: terms i (k + 1) cs).sum = 2 ^ k * (bit c i + 2 * colV cs i)
    rw [List.sum_cons, terms_sum i cs (k + 1), Int.pow_succ, Int.mul_add, Int.mul_comm (bit c i), Int.mul_assoc]
def term1 (i : Nat) : PyData → PyData
  | .tuple [.int k, .int c] => .int (bit c i * 2 ^ k.toNat)
  | d => d
theorem terms_map (i : Nat) : ∀ (cs : List Int) (k : Nat), (enumL k (intsL cs)).map (term1 i) = intsL (terms i k cs)
  | [], k => rfl
  | c :: cs, k => by
    show term1 i (.tuple [.int (k : Int), .int c]) :: (enumL (k + 1) (intsL cs)).map (term1 i) = .int (bit c i * 2 ^ k) :: intsL (terms i (k + 1) cs)
    rw [terms_map i cs (k + 1)]; rfl
theorem enum_mem : ∀ {cs : List Int} {k : Nat} {d : PyData}, d ∈ enumL k (intsL cs) → ∃ (j : Nat) (c : Int), d = .tuple [.int (j : Int), .int c] ∧ j < k + cs.length
  | [], k, d, h => by cases h
  | c :: cs, k, d, h => by
    rcases List.mem_cons.mp (show d ∈ .tuple [.int (k : Int), .int c] :: enumL (k + 1) (intsL cs) from h) with rfl | h
    · exact ⟨k, c, rfl, by simp⟩
    · obtain ⟨j, c', h1, h2⟩ := enum_mem h
      exact ⟨j, c', h1, by simp; omega⟩
theorem enum_len : ∀ {ds : List PyData} {k : Nat}, (enumL k ds).length = ds.length
  | [], _ => rfl
  | d :: ds, k => by simp [enumL, enum_len]
theorem app_ints {cs : List Int} {x : Int} (h : cs.length ≤ 1000) : methD .append (.lst ((intsL cs).map .fz)) [.int x] = some (.none, .lst ((intsL (cs ++ [x])).map .fz)) := by
  show (if ((intsL cs).map OD.fz).length < lim then some (PyData.none, OD.lst ((intsL cs).map OD.fz ++ [.fz (.int x)])) else none) = _
  rw [if_pos (by rw [List.length_map, len_ints]; exact Nat.lt_of_le_of_lt h (by decide))]
  simp [intsL]
theorem getAt_ints {cs : List Int} : getAt (.lst ((intsL cs).map .fz)) [] = some (.lst ((intsL cs).map .fz)) := rfl
theorem varK_ints {i : Nat} {cs : List Int} : varK i (.lst ((intsL cs).map .fz)) = ret (.at i []) := rfl
theorem state_of_ok {G : Nat → Option Fn} (hG : G i_state_of = some f_state_of) (cs : List Int) (w : Nat) {W : Int} (hW : W = w) (hw : w ≤ 1000) (hl : cs.length ≤ 1000) {n : Nat} (hn : 1 ≤ n) :
    callN G n i_state_of [.fz (.int W), .fz (.tuple (intsL cs))] = .ok (.fz (.tuple (intsL (cols w cs)))) none := by
  obtain ⟨n, rfl⟩ : ∃ m, n = m + 1 := ⟨n - 1, by omega⟩
  refine call_wp hG rfl ?_
  have hr : rngK [.int W] = ret (intsL ((List.range w).map fun (k : Nat) => (k : Int))) := by rw [hW]; exact rngK_nat (by omega)
  clear hW
  simp only [f_state_of, bind_bnd, wp_bnd, wp_ret, wp_bad, ev_var, ev_lit, ev_bin, ev_neg, ev_cmp, ev_and, ev_or, ev_not, ev_ite, ev_tup, ev_lst, ev_idx, ev_slc, ev_call, ev_kcall, ev_bi, ev_comp, ev_meth, evs_nil, evs_cons, evo_nil, evo_cons, evc_nil, evc_cons, evi_of, evi_rng, evi_enm, evi_zip, evi_rvs, exs_nil, exs_cons, ex_expr, ex_set, ex_unp, ex_par, ex_put, ex_ite, ex_whl, ex_fr, ex_rt, stores_nil, stores_var, opd_tmp, opd_at, val_tmp, val_atE, valD_def, see_fz, see_at, keep_fz, keep_at, give_fz, give_at, slotAt_def, varK_fz, varK_lst, idxK_fz, idxK_at, nodeK_fz, nodeK_lst, kidK_fz, kidK_lst, seeAll_nil, seeAll_cons, keepAll_nil, keepAll_cons, giveAll_nil, giveAll_cons, leave_tmp, leave_at, isLst_at, isAt_at, putAt_at, tgs_var, forL_nil, forL_cons, calling_none, calling_some, lend_noneE, lend_zero, lend_succ, lentK_fz, lentK_at, putBack_at, wpS, wpSet, wpOpt, wpIte, wpLeave, test_def, boolK_t, boolK_f, kid0, kid1, kid2, frz_fz, shal_fz, frz_nil, shal_nil, frz_ints, shal_ints, varK_dk, nodeK_dk, getAt_nil, getAt_dk0, setAt_nil, setAt_dk0, putD_dk2, negK_int, notK_bool, cmp_eqI, cmp_neI, cmp_ltI, cmp_leI, cmp_gtI, cmp_geI, cmp_neN, tru_bool, add_int, sub_int, bi_intI, bi_intB, bi_absI, rngK_2, limE, wpBoolK, behind_rt0, behind_rtN, if_true, if_false, Bool.false_eq_true, Bool.not_true, Bool.not_false, Bool.true_eq_false, List.isEmpty_nil, List.isEmpty_cons, decide_true, decide_false, List.isEmpty, Nat.zero_le, decide_eq_true_eq, List.getElem?_cons_zero, List.getElem?_cons_succ, List.set_cons_zero, List.set_cons_succ, List.length_cons, List.length_nil, List.map_cons, List.map_nil, List.cons_append, List.nil_append, List.replicate, Nat.reduceAdd, Nat.reduceSub, Nat.reduceLT, Nat.reduceLeDiff, true_and, and_true, valD_def, hr]
  refine for_inv (fun rest e => ∃ (i : Nat) (x : Option OD), i ≤ w ∧ rest = intsL (((List.range w).drop i).map fun (k : Nat) => (k : Int)) ∧ e = [some (.fz (.int W)), some (.fz (.tuple (intsL cs))), some (.lst ((intsL (cols i cs)).map .fz)), x, none, none]) (fun d ds e h => ?_) (fun e h => ?_) _ _ ⟨0, none, Nat.zero_le _, rfl, rfl⟩
  · obtain ⟨i, x, hi, hr, rfl⟩ := h
    by_cases lt : i < w
    · rw [List.drop_eq_getElem_cons (by simpa using lt)] at hr
      injection hr with h1 h2
      rw [List.getElem_range] at h1
      subst h1 h2
      simp only [bind_bnd, wp_bnd, wp_ret, wp_bad, ev_var, ev_lit, ev_bin, ev_neg, ev_cmp, ev_and, ev_or, ev_not, ev_ite, ev_tup, ev_lst, ev_idx, ev_slc, ev_call, ev_kcall, ev_bi, ev_comp, ev_meth, evs_nil, evs_cons, evo_nil, evo_cons, evc_nil, evc_cons, evi_of, evi_rng, evi_enm, evi_zip, evi_rvs, exs_nil, exs_cons, ex_expr, ex_set, ex_unp, ex_par, ex_put, ex_ite, ex_whl, ex_fr, ex_rt, stores_nil, stores_var, opd_tmp, opd_at, val_tmp, val_atE, valD_def, see_fz, see_at, keep_fz, keep_at, give_fz, give_at, slotAt_def, varK_fz, varK_lst, idxK_fz, idxK_at, nodeK_fz, nodeK_lst, kidK_fz, kidK_lst, seeAll_nil, seeAll_cons, keepAll_nil, keepAll_cons, giveAll_nil, giveAll_cons, leave_tmp, leave_at, isLst_at, isAt_at, putAt_at, tgs_var, forL_nil, forL_cons, calling_none, calling_some, lend_noneE, lend_zero, lend_succ, lentK_fz, lentK_at, putBack_at, wpS, wpSet, wpOpt, wpIte, wpLeave, test_def, boolK_t, boolK_f, kid0, kid1, kid2, frz_fz, shal_fz, frz_nil, shal_nil, frz_ints, shal_ints, varK_dk, nodeK_dk, getAt_nil, getAt_dk0, setAt_nil, setAt_dk0, putD_dk2, negK_int, notK_bool, cmp_eqI, cmp_neI, cmp_ltI, cmp_leI, cmp_gtI, cmp_geI, cmp_neN, tru_bool, add_int, sub_int, bi_intI, bi_intB, bi_absI, rngK_2, limE, wpBoolK, behind_rt0, behind_rtN, if_true, if_false, Bool.false_eq_true, Bool.not_true, Bool.not_false, Bool.true_eq_false, List.isEmpty_nil, List.isEmpty_cons, decide_true, decide_false, List.isEmpty, Nat.zero_le, decide_eq_true_eq, List.getElem?_cons_zero, List.getElem?_cons_succ, List.set_cons_zero, List.set_cons_succ, List.length_cons, List.length_nil, List.map_cons, List.map_nil, List.cons_append, List.nil_append, List.replicate, Nat.reduceAdd, Nat.reduceSub, Nat.reduceLT, Nat.reduceLeDiff, true_and, and_true, seqD_tup, valD_def]
      refine comp_map (term1 i) rfl (by rw [enum_len, len_ints]; exact lim_big hl) (fun d hd => ?_) ?_
      · obtain ⟨j, c, rfl, hj⟩ := enum_mem hd
        have s1 : binD .shl (.int (c / 2 ^ i % 2)) (.int (j : Int)) = some (.fz (.int (c / 2 ^ i % 2 * 2 ^ j))) := shl_int bit_lt (by omega)
        simp only [bind_bnd, wp_bnd, wp_ret, wp_bad, ev_var, ev_lit, ev_bin, ev_neg, ev_cmp, ev_and, ev_or, ev_not, ev_ite, ev_tup, ev_lst, ev_idx, ev_slc, ev_call, ev_kcall, ev_bi, ev_comp, ev_meth, evs_nil, evs_cons, evo_nil, evo_cons, evc_nil, evc_cons, evi_of, evi_rng, evi_enm, evi_zip, evi_rvs, exs_nil, exs_cons, ex_expr, ex_set, ex_unp, ex_par, ex_put, ex_ite, ex_whl, ex_fr, ex_rt, stores_nil, stores_var, opd_tmp, opd_at, val_tmp, val_atE, valD_def, see_fz, see_at, keep_fz, keep_at, give_fz, give_at, slotAt_def, varK_fz, varK_lst, idxK_fz, idxK_at, nodeK_fz, nodeK_lst, kidK_fz, kidK_lst, seeAll_nil, seeAll_cons, keepAll_nil, keepAll_cons, giveAll_nil, giveAll_cons, leave_tmp, leave_at, isLst_at, isAt_at, putAt_at, tgs_var, forL_nil, forL_cons, calling_none, calling_some, lend_noneE, lend_zero, lend_succ, lentK_fz, lentK_at, putBack_at, wpS, wpSet, wpOpt, wpIte, wpLeave, test_def, boolK_t, boolK_f, kid0, kid1, kid2, frz_fz, shal_fz, frz_nil, shal_nil, frz_ints, shal_ints, varK_dk, nodeK_dk, getAt_nil, getAt_dk0, setAt_nil, setAt_dk0, putD_dk2, negK_int, notK_bool, cmp_eqI, cmp_neI, cmp_ltI, cmp_leI, cmp_gtI, cmp_geI, cmp_neN, tru_bool, add_int, sub_int, bi_intI, bi_intB, bi_absI, rngK_2, limE, wpBoolK, behind_rt0, behind_rtN, if_true, if_false, Bool.false_eq_true, Bool.not_true, Bool.not_false, Bool.true_eq_false, List.isEmpty_nil, List.isEmpty_cons, decide_true, decide_false, List.isEmpty, Nat.zero_le, decide_eq_true_eq, List.getElem?_cons_zero, List.getElem?_cons_succ, List.set_cons_zero, List.set_cons_succ, List.length_cons, List.length_nil, List.map_cons, List.map_nil, List.cons_append, List.nil_append, List.replicate, Nat.reduceAdd, Nat.reduceSub, Nat.reduceLT, Nat.reduceLeDiff, true_and, and_true, tgs_two, shr_int, and_int, bit_and1, s1, valD_def]
        first | exact ⟨rfl, rfl⟩ | rfl
      · rw [terms_map]
        have s2 : (terms i 0 cs).sum = colV cs i := by rw [terms_sum]; simp
        have s3 : cols (i + 1) cs = cols i cs ++ [colV cs i] := by simp [cols, List.range_succ]
        simp only [bind_bnd, wp_bnd, wp_ret, wp_bad, ev_var, ev_lit, ev_bin, ev_neg, ev_cmp, ev_and, ev_or, ev_not, ev_ite, ev_tup, ev_lst, ev_idx, ev_slc, ev_call, ev_kcall, ev_bi, ev_comp, ev_meth, evs_nil, evs_cons, evo_nil, evo_cons, evc_nil, evc_cons, evi_of, evi_rng, evi_enm, evi_zip, evi_rvs, exs_nil, exs_cons, ex_expr, ex_set, ex_unp, ex_par, ex_put, ex_ite, ex_whl, ex_fr, ex_rt, stores_nil, stores_var, opd_tmp, opd_at, val_tmp, val_atE, valD_def, see_fz, see_at, keep_fz, keep_at, give_fz, give_at, slotAt_def, varK_fz, varK_lst, idxK_fz, idxK_at, nodeK_fz, nodeK_lst, kidK_fz, kidK_lst, seeAll_nil, seeAll_cons, keepAll_nil, keepAll_cons, giveAll_nil, giveAll_cons, leave_tmp, leave_at, isLst_at, isAt_at, putAt_at, tgs_var, forL_nil, forL_cons, calling_none, calling_some, lend_noneE, lend_zero, lend_succ, lentK_fz, lentK_at, putBack_at, wpS, wpSet, wpOpt, wpIte, wpLeave, test_def, boolK_t, boolK_f, kid0, kid1, kid2, frz_fz, shal_fz, frz_nil, shal_nil, frz_ints, shal_ints, varK_dk, nodeK_dk, getAt_nil, getAt_dk0, setAt_nil, setAt_dk0, putD_dk2, negK_int, notK_bool, cmp_eqI, cmp_neI, cmp_ltI, cmp_leI, cmp_gtI, cmp_geI, cmp_neN, tru_bool, add_int, sub_int, bi_intI, bi_intB, bi_absI, rngK_2, limE, wpBoolK, behind_rt0, behind_rtN, if_true, if_false, Bool.false_eq_true, Bool.not_true, Bool.not_false, Bool.true_eq_false, List.isEmpty_nil, List.isEmpty_cons, decide_true, decide_false, List.isEmpty, Nat.zero_le, decide_eq_true_eq, List.getElem?_cons_zero, List.getElem?_cons_succ, List.set_cons_zero, List.set_cons_succ, List.length_cons, List.length_nil, List.map_cons, List.map_nil, List.cons_append, List.nil_append, List.replicate, Nat.reduceAdd, Nat.reduceSub, Nat.reduceLT, Nat.reduceLeDiff, true_and, and_true, frz_fzs', sA_sum, bi_sumL, s2, varK_ints, isLst_at, getAt_ints, app_ints (cs := cols i cs) (by rw [cols_len]; omega)]
        exact ⟨i + 1, _, lt, rfl, by rw [s3]⟩
    · rw [List.drop_of_length_le (by simp; omega)] at hr
      cases hr
  · obtain ⟨i, x, hi, hr, rfl⟩ := h
    have ei : i = w := by
      have := congrArg List.length hr
      simp [intsL] at this
      omega
    subst ei
    simp only [bind_bnd, wp_bnd, wp_ret, wp_bad, ev_var, ev_lit, ev_bin, ev_neg, ev_cmp, ev_and, ev_or, ev_not, ev_ite, ev_tup, ev_lst, ev_idx, ev_slc, ev_call, ev_kcall, ev_bi, ev_comp, ev_meth, evs_nil, evs_cons, evo_nil, evo_cons, evc_nil, evc_cons, evi_of, evi_rng, evi_enm, evi_zip, evi_rvs, exs_nil, exs_cons, ex_expr, ex_set, ex_unp, ex_par, ex_put, ex_ite, ex_whl, ex_fr, ex_rt, stores_nil, stores_var, opd_tmp, opd_at, val_tmp, val_atE, valD_def, see_fz, see_at, keep_fz, keep_at, give_fz, give_at, slotAt_def, varK_fz, varK_lst, idxK_fz, idxK_at, nodeK_fz, nodeK_lst, kidK_fz, kidK_lst, seeAll_nil, seeAll_cons, keepAll_nil, keepAll_cons, giveAll_nil, giveAll_cons, leave_tmp, leave_at, isLst_at, isAt_at, putAt_at, tgs_var, forL_nil, forL_cons, calling_none, calling_some, lend_noneE, lend_zero, lend_succ, lentK_fz, lentK_at, putBack_at, wpS, wpSet, wpOpt, wpIte, wpLeave, test_def, boolK_t, boolK_f, kid0, kid1, kid2, frz_fz, shal_fz, frz_nil, shal_nil, frz_ints, shal_ints, varK_dk, nodeK_dk, getAt_nil, getAt_dk0, setAt_nil, setAt_dk0, putD_dk2, negK_int, notK_bool, cmp_eqI, cmp_neI, cmp_ltI, cmp_leI, cmp_gtI, cmp_geI, cmp_neN, tru_bool, add_int, sub_int, bi_intI, bi_intB, bi_absI, rngK_2, limE, wpBoolK, behind_rt0, behind_rtN, if_true, if_false, Bool.false_eq_true, Bool.not_true, Bool.not_false, Bool.true_eq_false, List.isEmpty_nil, List.isEmpty_cons, decide_true, decide_false, List.isEmpty, Nat.zero_le, decide_eq_true_eq, List.getElem?_cons_zero, List.getElem?_cons_succ, List.set_cons_zero, List.set_cons_succ, List.length_cons, List.length_nil, List.map_cons, List.map_nil, List.cons_append, List.nil_append, List.replicate, Nat.reduceAdd, Nat.reduceSub, Nat.reduceLT, Nat.reduceLeDiff, true_and, and_true, varK_ints, kA_tuple, getAt_ints, bi_tupL]
end HW
end

section
set_option linter.all false
set_option maxHeartbeats 4000000
set_option maxRecDepth 4000
/-! # Plain: low parts, depths -/
namespace HW
open PySem PyProof.Rows PySem.W
def lowF (k : Nat) : PyData → PyData
  | .int x => .int (x % 2 ^ k)
  | d => d
def highF (k : Nat) : PyData → PyData
  | .int x => .int (x / 2 ^ k)
  | d => d
theorem low_map (k : Nat) (ws : List Int) : (intsL ws).map (lowF k) = intsL (ws.map fun x => x % 2 ^ k) := by
  unfold intsL; rw [List.map_map, List.map_map]; rfl
theorem high_map (k : Nat) (ws : List Int) : (intsL ws).map (highF k) = intsL (ws.map fun x => x / 2 ^ k) := by
  unfold intsL; rw [List.map_map, List.map_map]; rfl
theorem low_part_ok {G : Nat → Option Fn} (hG : G i_low_part = some f_low_part) (ws : List Int) (k : Nat) {Kk : Int} (hk : Kk = k) (hk2 : k ≤ 1000) (hl : ws.length ≤ 1000) {n : Nat} (hn : 1 ≤ n) :
    callN G n i_low_part [.fz (.tuple (intsL ws)), .fz (.int Kk)] = .ok (.fz (.tuple (intsL (ws.map fun x => x % 2 ^ k)))) none := by
  obtain ⟨n, rfl⟩ : ∃ m, n = m + 1 := ⟨n - 1, by omega⟩
  refine call_wp hG rfl ?_
  have s1 : binD .shl (.int 1) (.int Kk) = some (.fz (.int (2 ^ k))) := by
    rw [hk, shl_int (by decide) (by omega), Int.one_mul]
  clear hk
  have s2 : ∀ x : Int, Builtin.bitAnd x (2 ^ k - 1) = x % 2 ^ k := fun x => kbt_mask x k
  simp only [f_low_part, bind_bnd, wp_bnd, wp_ret, wp_bad, ev_var, ev_lit, ev_bin, ev_neg, ev_cmp, ev_and, ev_or, ev_not, ev_ite, ev_tup, ev_lst, ev_idx, ev_slc, ev_call, ev_kcall, ev_bi, ev_comp, ev_meth, evs_nil, evs_cons, evo_nil, evo_cons, evc_nil, evc_cons, evi_of, evi_rng, evi_enm, evi_zip, evi_rvs, exs_nil, exs_cons, ex_expr, ex_set, ex_unp, ex_par, ex_put, ex_ite, ex_whl, ex_fr, ex_rt, stores_nil, stores_var, opd_tmp, opd_at, val_tmp, val_atE, valD_def, see_fz, see_at, keep_fz, keep_at, give_fz, give_at, slotAt_def, varK_fz, varK_lst, idxK_fz, idxK_at, nodeK_fz, nodeK_lst, kidK_fz, kidK_lst, seeAll_nil, seeAll_cons, keepAll_nil, keepAll_cons, giveAll_nil, giveAll_cons, leave_tmp, leave_at, isLst_at, isAt_at, putAt_at, tgs_var, forL_nil, forL_cons, calling_none, calling_some, lend_noneE, lend_zero, lend_succ, lentK_fz, lentK_at, putBack_at, wpS, wpSet, wpOpt, wpIte, wpLeave, test_def, boolK_t, boolK_f, kid0, kid1, kid2, frz_fz, shal_fz, frz_nil, shal_nil, frz_ints, shal_ints, varK_dk, nodeK_dk, getAt_nil, getAt_dk0, setAt_nil, setAt_dk0, putD_dk2, negK_int, notK_bool, cmp_eqI, cmp_neI, cmp_ltI, cmp_leI, cmp_gtI, cmp_geI, cmp_neN, tru_bool, add_int, sub_int, bi_intI, bi_intB, bi_absI, rngK_2, limE, wpBoolK, behind_rt0, behind_rtN, if_true, if_false, Bool.false_eq_true, Bool.not_true, Bool.not_false, Bool.true_eq_false, List.isEmpty_nil, List.isEmpty_cons, decide_true, decide_false, List.isEmpty, Nat.zero_le, decide_eq_true_eq, List.getElem?_cons_zero, List.getElem?_cons_succ, List.set_cons_zero, List.set_cons_succ, List.length_cons, List.length_nil, List.map_cons, List.map_nil, List.cons_append, List.nil_append, List.replicate, Nat.reduceAdd, Nat.reduceSub, Nat.reduceLT, Nat.reduceLeDiff, true_and, and_true, s1, valD_def, seqD_tup]
  refine comp_map (lowF k) rfl (by rw [len_ints]; exact lim_big hl) (fun d hd => ?_) ?_
  · obtain ⟨x, _, rfl⟩ := mem_ints hd
    simp only [bind_bnd, wp_bnd, wp_ret, wp_bad, ev_var, ev_lit, ev_bin, ev_neg, ev_cmp, ev_and, ev_or, ev_not, ev_ite, ev_tup, ev_lst, ev_idx, ev_slc, ev_call, ev_kcall, ev_bi, ev_comp, ev_meth, evs_nil, evs_cons, evo_nil, evo_cons, evc_nil, evc_cons, evi_of, evi_rng, evi_enm, evi_zip, evi_rvs, exs_nil, exs_cons, ex_expr, ex_set, ex_unp, ex_par, ex_put, ex_ite, ex_whl, ex_fr, ex_rt, stores_nil, stores_var, opd_tmp, opd_at, val_tmp, val_atE, valD_def, see_fz, see_at, keep_fz, keep_at, give_fz, give_at, slotAt_def, varK_fz, varK_lst, idxK_fz, idxK_at, nodeK_fz, nodeK_lst, kidK_fz, kidK_lst, seeAll_nil, seeAll_cons, keepAll_nil, keepAll_cons, giveAll_nil, giveAll_cons, leave_tmp, leave_at, isLst_at, isAt_at, putAt_at, tgs_var, forL_nil, forL_cons, calling_none, calling_some, lend_noneE, lend_zero, lend_succ, lentK_fz, lentK_at, putBack_at, wpS, wpSet, wpOpt, wpIte, wpLeave, test_def, boolK_t, boolK_f, kid0, kid1, kid2, frz_fz, shal_fz, frz_nil, shal_nil, frz_ints, shal_ints, varK_dk, nodeK_dk, getAt_nil, getAt_dk0, setAt_nil, setAt_dk0, putD_dk2, negK_int, notK_bool, cmp_eqI, cmp_neI, cmp_ltI, cmp_leI, cmp_gtI, cmp_geI, cmp_neN, tru_bool, add_int, sub_int, bi_intI, bi_intB, bi_absI, rngK_2, limE, wpBoolK, behind_rt0, behind_rtN, if_true, if_false, Bool.false_eq_true, Bool.not_true, Bool.not_false, Bool.true_eq_false, List.isEmpty_nil, List.isEmpty_cons, decide_true, decide_false, List.isEmpty, Nat.zero_le, decide_eq_true_eq, List.getElem?_cons_zero, List.getElem?_cons_succ, List.set_cons_zero, List.set_cons_succ, List.length_cons, List.length_nil, List.map_cons, List.map_nil, List.cons_append, List.nil_append, List.replicate, Nat.reduceAdd, Nat.reduceSub, Nat.reduceLT, Nat.reduceLeDiff, true_and, and_true, and_int, s2, valD_def]
    exact ⟨rfl, rfl⟩
  · rw [low_map]
    simp only [bind_bnd, wp_bnd, wp_ret, wp_bad, ev_var, ev_lit, ev_bin, ev_neg, ev_cmp, ev_and, ev_or, ev_not, ev_ite, ev_tup, ev_lst, ev_idx, ev_slc, ev_call, ev_kcall, ev_bi, ev_comp, ev_meth, evs_nil, evs_cons, evo_nil, evo_cons, evc_nil, evc_cons, evi_of, evi_rng, evi_enm, evi_zip, evi_rvs, exs_nil, exs_cons, ex_expr, ex_set, ex_unp, ex_par, ex_put, ex_ite, ex_whl, ex_fr, ex_rt, stores_nil, stores_var, opd_tmp, opd_at, val_tmp, val_atE, valD_def, see_fz, see_at, keep_fz, keep_at, give_fz, give_at, slotAt_def, varK_fz, varK_lst, idxK_fz, idxK_at, nodeK_fz, nodeK_lst, kidK_fz, kidK_lst, seeAll_nil, seeAll_cons, keepAll_nil, keepAll_cons, giveAll_nil, giveAll_cons, leave_tmp, leave_at, isLst_at, isAt_at, putAt_at, tgs_var, forL_nil, forL_cons, calling_none, calling_some, lend_noneE, lend_zero, lend_succ, lentK_fz, lentK_at, putBack_at, wpS, wpSet, wpOpt, wpIte, wpLeave, test_def, boolK_t, boolK_f, kid0, kid1, kid2, frz_fz, shal_fz, frz_nil, shal_nil, frz_ints, shal_ints, varK_dk, nodeK_dk, getAt_nil, getAt_dk0, setAt_nil, setAt_dk0, putD_dk2, negK_int, notK_bool, cmp_eqI, cmp_neI, cmp_ltI, cmp_leI, cmp_gtI, cmp_geI, cmp_neN, tru_bool, add_int, sub_int, bi_intI, bi_intB, bi_absI, rngK_2, limE, wpBoolK, behind_rt0, behind_rtN, if_true, if_false, Bool.false_eq_true, Bool.not_true, Bool.not_false, Bool.true_eq_false, List.isEmpty_nil, List.isEmpty_cons, decide_true, decide_false, List.isEmpty, Nat.zero_le, decide_eq_true_eq, List.getElem?_cons_zero, List.getElem?_cons_succ, List.set_cons_zero, List.set_cons_succ, List.length_cons, List.length_nil, List.map_cons, List.map_nil, List.cons_append, List.nil_append, List.replicate, Nat.reduceAdd, Nat.reduceSub, Nat.reduceLT, Nat.reduceLeDiff, true_and, and_true, frz_fzs', kA_tuple, bi_tupL]
theorem halved_ok {G : Nat → Option Fn} (hG : G i_halved = some f_halved) (ws : List Int) (k : Nat) {Kk : Int} (hk : Kk = k) (hl : ws.length ≤ 1000) {n : Nat} (hn : 1 ≤ n) :
    callN G n i_halved [.fz (.tuple (intsL ws)), .fz (.int Kk)] = .ok (.fz (.tuple (intsL (ws.map fun x => x / 2 ^ k)))) none := by
  obtain ⟨n, rfl⟩ : ∃ m, n = m + 1 := ⟨n - 1, by omega⟩
  refine call_wp hG rfl ?_
  have s1 : ∀ x : Int, binD .shr (.int x) (.int Kk) = some (.fz (.int (x / 2 ^ k))) := fun x => by rw [hk, shr_int]
  clear hk
  simp only [f_halved, bind_bnd, wp_bnd, wp_ret, wp_bad, ev_var, ev_lit, ev_bin, ev_neg, ev_cmp, ev_and, ev_or, ev_not, ev_ite, ev_tup, ev_lst, ev_idx, ev_slc, ev_call, ev_kcall, ev_bi, ev_comp, ev_meth, evs_nil, evs_cons, evo_nil, evo_cons, evc_nil, evc_cons, evi_of, evi_rng, evi_enm, evi_zip, evi_rvs, exs_nil, exs_cons, ex_expr, ex_set, ex_unp, ex_par, ex_put, ex_ite, ex_whl, ex_fr, ex_rt, stores_nil, stores_var, opd_tmp, opd_at, val_tmp, val_atE, valD_def, see_fz, see_at, keep_fz, keep_at, give_fz, give_at, slotAt_def, varK_fz, varK_lst, idxK_fz, idxK_at, nodeK_fz, nodeK_lst, kidK_fz, kidK_lst, seeAll_nil, seeAll_cons, keepAll_nil, keepAll_cons, giveAll_nil, giveAll_cons, leave_tmp, leave_at, isLst_at, isAt_at, putAt_at, tgs_var, forL_nil, forL_cons, calling_none, calling_some, lend_noneE, lend_zero, lend_succ, lentK_fz, lentK_at, putBack_at, wpS, wpSet, wpOpt, wpIte, wpLeave, test_def, boolK_t, boolK_f, kid0, kid1, kid2, frz_fz, shal_fz, frz_nil, shal_nil, frz_ints, shal_ints, varK_dk, nodeK_dk, getAt_nil, getAt_dk0, setAt_nil, setAt_dk0, putD_dk2, negK_int, notK_bool, cmp_eqI, cmp_neI, cmp_ltI, cmp_leI, cmp_gtI, cmp_geI, cmp_neN, tru_bool, add_int, sub_int, bi_intI, bi_intB, bi_absI, rngK_2, limE, wpBoolK, behind_rt0, behind_rtN, if_true, if_false, Bool.false_eq_true, Bool.not_true, Bool.not_false, Bool.true_eq_false, List.isEmpty_nil, List.isEmpty_cons, decide_true, decide_false, List.isEmpty, Nat.zero_le, decide_eq_true_eq, List.getElem?_cons_zero, List.getElem?_cons_succ, List.set_cons_zero, List.set_cons_succ, List.length_cons, List.length_nil, List.map_cons, List.map_nil, List.cons_append, List.nil_append, List.replicate, Nat.reduceAdd, Nat.reduceSub, Nat.reduceLT, Nat.reduceLeDiff, true_and, and_true, valD_def, seqD_tup]
  refine comp_map (highF k) rfl (by rw [len_ints]; exact lim_big hl) (fun d hd => ?_) ?_
  · obtain ⟨x, _, rfl⟩ := mem_ints hd
    simp only [bind_bnd, wp_bnd, wp_ret, wp_bad, ev_var, ev_lit, ev_bin, ev_neg, ev_cmp, ev_and, ev_or, ev_not, ev_ite, ev_tup, ev_lst, ev_idx, ev_slc, ev_call, ev_kcall, ev_bi, ev_comp, ev_meth, evs_nil, evs_cons, evo_nil, evo_cons, evc_nil, evc_cons, evi_of, evi_rng, evi_enm, evi_zip, evi_rvs, exs_nil, exs_cons, ex_expr, ex_set, ex_unp, ex_par, ex_put, ex_ite, ex_whl, ex_fr, ex_rt, stores_nil, stores_var, opd_tmp, opd_at, val_tmp, val_atE, valD_def, see_fz, see_at, keep_fz, keep_at, give_fz, give_at, slotAt_def, varK_fz, varK_lst, idxK_fz, idxK_at, nodeK_fz, nodeK_lst, kidK_fz, kidK_lst, seeAll_nil, seeAll_cons, keepAll_nil, keepAll_cons, giveAll_nil, giveAll_cons, leave_tmp, leave_at, isLst_at, isAt_at, putAt_at, tgs_var, forL_nil, forL_cons, calling_none, calling_some, lend_noneE, lend_zero, lend_succ, lentK_fz, lentK_at, putBack_at, wpS, wpSet, wpOpt, wpIte, wpLeave, test_def, boolK_t, boolK_f, kid0, kid1, kid2, frz_fz, shal_fz, frz_nil, shal_nil, frz_ints, shal_ints, varK_dk, nodeK_dk, getAt_nil, getAt_dk0, setAt_nil, setAt_dk0, putD_dk2, negK_int, notK_bool, cmp_eqI, cmp_neI, cmp_ltI, cmp_leI, cmp_gtI, cmp_geI, cmp_neN, tru_bool, add_int, sub_int, bi_intI, bi_intB, bi_absI, rngK_2, limE, wpBoolK, behind_rt0, behind_rtN, if_true, if_false, Bool.false_eq_true, Bool.not_true, Bool.not_false, Bool.true_eq_false, List.isEmpty_nil, List.isEmpty_cons, decide_true, decide_false, List.isEmpty, Nat.zero_le, decide_eq_true_eq, List.getElem?_cons_zero, List.getElem?_cons_succ, List.set_cons_zero, List.set_cons_succ, List.length_cons, List.length_nil, List.map_cons, List.map_nil, List.cons_append, List.nil_append, List.replicate, Nat.reduceAdd, Nat.reduceSub, Nat.reduceLT, Nat.reduceLeDiff, true_and, and_true, s1, valD_def]
    exact ⟨rfl, rfl⟩
  · rw [high_map]
    simp only [bind_bnd, wp_bnd, wp_ret, wp_bad, ev_var, ev_lit, ev_bin, ev_neg, ev_cmp, ev_and, ev_or, ev_not, ev_ite, ev_tup, ev_lst, ev_idx, ev_slc, ev_call, ev_kcall, ev_bi, ev_comp, ev_meth, evs_nil, evs_cons, evo_nil, evo_cons, evc_nil, evc_cons, evi_of, evi_rng, evi_enm, evi_zip, evi_rvs, exs_nil, exs_cons, ex_expr, ex_set, ex_unp, ex_par, ex_put, ex_ite, ex_whl, ex_fr, ex_rt, stores_nil, stores_var, opd_tmp, opd_at, val_tmp, val_atE, valD_def, see_fz, see_at, keep_fz, keep_at, give_fz, give_at, slotAt_def, varK_fz, varK_lst, idxK_fz, idxK_at, nodeK_fz, nodeK_lst, kidK_fz, kidK_lst, seeAll_nil, seeAll_cons, keepAll_nil, keepAll_cons, giveAll_nil, giveAll_cons, leave_tmp, leave_at, isLst_at, isAt_at, putAt_at, tgs_var, forL_nil, forL_cons, calling_none, calling_some, lend_noneE, lend_zero, lend_succ, lentK_fz, lentK_at, putBack_at, wpS, wpSet, wpOpt, wpIte, wpLeave, test_def, boolK_t, boolK_f, kid0, kid1, kid2, frz_fz, shal_fz, frz_nil, shal_nil, frz_ints, shal_ints, varK_dk, nodeK_dk, getAt_nil, getAt_dk0, setAt_nil, setAt_dk0, putD_dk2, negK_int, notK_bool, cmp_eqI, cmp_neI, cmp_ltI, cmp_leI, cmp_gtI, cmp_geI, cmp_neN, tru_bool, add_int, sub_int, bi_intI, bi_intB, bi_absI, rngK_2, limE, wpBoolK, behind_rt0, behind_rtN, if_true, if_false, Bool.false_eq_true, Bool.not_true, Bool.not_false, Bool.true_eq_false, List.isEmpty_nil, List.isEmpty_cons, decide_true, decide_false, List.isEmpty, Nat.zero_le, decide_eq_true_eq, List.getElem?_cons_zero, List.getElem?_cons_succ, List.set_cons_zero, List.set_cons_succ, List.length_cons, List.length_nil, List.map_cons, List.map_nil, List.cons_append, List.nil_append, List.replicate, Nat.reduceAdd, Nat.reduceSub, Nat.reduceLT, Nat.reduceLeDiff, true_and, and_true, frz_fzs', kA_tuple, bi_tupL]
/-- the first level whose column is not 0 -/
def dep (ws : List Int) : Nat → Nat → Nat
  | _, 0 => 0
  | i, m + 1 => if colV ws i = 0 then dep ws (i + 1) m + 1 else 0
theorem depth_ok {G : Nat → Option Fn} (h0 : G i_column_of = some f_column_of) (hG : G i_depth = some f_depth) (ws : List Int) (w : Nat) {W : Int} (hW : W = w) (hw : w ≤ 1000) (hl : ws.length ≤ 1000) {n : Nat} (hn : 2 ≤ n) :
    callN G n i_depth [.fz (.int W), .fz (.tuple (intsL ws))] = .ok (.fz (.int (dep ws 0 w : Nat))) none := by
  obtain ⟨n, rfl⟩ : ∃ m, n = m + 1 := ⟨n - 1, by omega⟩
  refine call_wp hG rfl ?_
  have m0 := muN h0
  have hr : rngK [.int W] = ret (intsL ((List.range w).map fun (k : Nat) => (k : Int))) := by rw [hW]; exact rngK_nat (by omega)
  have hdone : ∀ D : Nat, D = w → (.int W : PyData) = .int (D : Int) := fun D e => by rw [hW, e]
  clear hW
  simp only [f_depth, bind_bnd, wp_bnd, wp_ret, wp_bad, ev_var, ev_lit, ev_bin, ev_neg, ev_cmp, ev_and, ev_or, ev_not, ev_ite, ev_tup, ev_lst, ev_idx, ev_slc, ev_call, ev_kcall, ev_bi, ev_comp, ev_meth, evs_nil, evs_cons, evo_nil, evo_cons, evc_nil, evc_cons, evi_of, evi_rng, evi_enm, evi_zip, evi_rvs, exs_nil, exs_cons, ex_expr, ex_set, ex_unp, ex_par, ex_put, ex_ite, ex_whl, ex_fr, ex_rt, stores_nil, stores_var, opd_tmp, opd_at, val_tmp, val_atE, valD_def, see_fz, see_at, keep_fz, keep_at, give_fz, give_at, slotAt_def, varK_fz, varK_lst, idxK_fz, idxK_at, nodeK_fz, nodeK_lst, kidK_fz, kidK_lst, seeAll_nil, seeAll_cons, keepAll_nil, keepAll_cons, giveAll_nil, giveAll_cons, leave_tmp, leave_at, isLst_at, isAt_at, putAt_at, tgs_var, forL_nil, forL_cons, calling_none, calling_some, lend_noneE, lend_zero, lend_succ, lentK_fz, lentK_at, putBack_at, wpS, wpSet, wpOpt, wpIte, wpLeave, test_def, boolK_t, boolK_f, kid0, kid1, kid2, frz_fz, shal_fz, frz_nil, shal_nil, frz_ints, shal_ints, varK_dk, nodeK_dk, getAt_nil, getAt_dk0, setAt_nil, setAt_dk0, putD_dk2, negK_int, notK_bool, cmp_eqI, cmp_neI, cmp_ltI, cmp_leI, cmp_gtI, cmp_geI, cmp_neN, tru_bool, add_int, sub_int, bi_intI, bi_intB, bi_absI, rngK_2, limE, wpBoolK, behind_rt0, behind_rtN, if_true, if_false, Bool.false_eq_true, Bool.not_true, Bool.not_false, Bool.true_eq_false, List.isEmpty_nil, List.isEmpty_cons, decide_true, decide_false, List.isEmpty, Nat.zero_le, decide_eq_true_eq, List.getElem?_cons_zero, List.getElem?_cons_succ, List.set_cons_zero, List.set_cons_succ, List.length_cons, List.length_nil, List.map_cons, List.map_nil, List.cons_append, List.nil_append, List.replicate, Nat.reduceAdd, Nat.reduceSub, Nat.reduceLT, Nat.reduceLeDiff, true_and, and_true, valD_def, hr]
  refine for_inv (fun rest e => ∃ (i : Nat) (x : Option OD), i ≤ w ∧ dep ws 0 w = i + dep ws i (w - i) ∧ rest = intsL (((List.range w).drop i).map fun (k : Nat) => (k : Int)) ∧ e = [some (.fz (.int W)), some (.fz (.tuple (intsL ws))), x]) (fun d ds e h => ?_) (fun e h => ?_) _ _ ⟨0, none, Nat.zero_le _, by simp, rfl, rfl⟩
  · obtain ⟨i, x, hi, hd, hr, rfl⟩ := h
    by_cases lt : i < w
    · rw [List.drop_eq_getElem_cons (by simpa using lt)] at hr
      injection hr with h1 h2
      rw [List.getElem_range] at h1
      subst h1 h2
      have hi' : w - i = (w - (i + 1)) + 1 := by omega
      rw [hi'] at hd
      by_cases z : colV ws i = 0
      · simp only [bind_bnd, wp_bnd, wp_ret, wp_bad, ev_var, ev_lit, ev_bin, ev_neg, ev_cmp, ev_and, ev_or, ev_not, ev_ite, ev_tup, ev_lst, ev_idx, ev_slc, ev_call, ev_kcall, ev_bi, ev_comp, ev_meth, evs_nil, evs_cons, evo_nil, evo_cons, evc_nil, evc_cons, evi_of, evi_rng, evi_enm, evi_zip, evi_rvs, exs_nil, exs_cons, ex_expr, ex_set, ex_unp, ex_par, ex_put, ex_ite, ex_whl, ex_fr, ex_rt, stores_nil, stores_var, opd_tmp, opd_at, val_tmp, val_atE, valD_def, see_fz, see_at, keep_fz, keep_at, give_fz, give_at, slotAt_def, varK_fz, varK_lst, idxK_fz, idxK_at, nodeK_fz, nodeK_lst, kidK_fz, kidK_lst, seeAll_nil, seeAll_cons, keepAll_nil, keepAll_cons, giveAll_nil, giveAll_cons, leave_tmp, leave_at, isLst_at, isAt_at, putAt_at, tgs_var, forL_nil, forL_cons, calling_none, calling_some, lend_noneE, lend_zero, lend_succ, lentK_fz, lentK_at, putBack_at, wpS, wpSet, wpOpt, wpIte, wpLeave, test_def, boolK_t, boolK_f, kid0, kid1, kid2, frz_fz, shal_fz, frz_nil, shal_nil, frz_ints, shal_ints, varK_dk, nodeK_dk, getAt_nil, getAt_dk0, setAt_nil, setAt_dk0, putD_dk2, negK_int, notK_bool, cmp_eqI, cmp_neI, cmp_ltI, cmp_leI, cmp_gtI, cmp_geI, cmp_neN, tru_bool, add_int, sub_int, bi_intI, bi_intB, bi_absI, rngK_2, limE, wpBoolK, behind_rt0, behind_rtN, if_true, if_false, Bool.false_eq_true, Bool.not_true, Bool.not_false, Bool.true_eq_false, List.isEmpty_nil, List.isEmpty_cons, decide_true, decide_false, List.isEmpty, Nat.zero_le, decide_eq_true_eq, List.getElem?_cons_zero, List.getElem?_cons_succ, List.set_cons_zero, List.set_cons_succ, List.length_cons, List.length_nil, List.map_cons, List.map_nil, List.cons_append, List.nil_append, List.replicate, Nat.reduceAdd, Nat.reduceSub, Nat.reduceLT, Nat.reduceLeDiff, true_and, and_true, m0, calling_none, lend_noneE, column_of_ok h0 ws i hl (show 1 ≤ n by omega), z]
        refine ⟨i + 1, _, lt, ?_, rfl, rfl⟩
        rw [hd]
        show i + (if colV ws i = 0 then dep ws (i + 1) (w - (i + 1)) + 1 else 0) = _
        rw [if_pos z]; omega
      · have hd2 : dep ws 0 w = i := by
          rw [hd]
          show i + (if colV ws i = 0 then dep ws (i + 1) (w - (i + 1)) + 1 else 0) = _
          rw [if_neg z]; omega
        rw [hd2]
        simp only [bind_bnd, wp_bnd, wp_ret, wp_bad, ev_var, ev_lit, ev_bin, ev_neg, ev_cmp, ev_and, ev_or, ev_not, ev_ite, ev_tup, ev_lst, ev_idx, ev_slc, ev_call, ev_kcall, ev_bi, ev_comp, ev_meth, evs_nil, evs_cons, evo_nil, evo_cons, evc_nil, evc_cons, evi_of, evi_rng, evi_enm, evi_zip, evi_rvs, exs_nil, exs_cons, ex_expr, ex_set, ex_unp, ex_par, ex_put, ex_ite, ex_whl, ex_fr, ex_rt, stores_nil, stores_var, opd_tmp, opd_at, val_tmp, val_atE, valD_def, see_fz, see_at, keep_fz, keep_at, give_fz, give_at, slotAt_def, varK_fz, varK_lst, idxK_fz, idxK_at, nodeK_fz, nodeK_lst, kidK_fz, kidK_lst, seeAll_nil, seeAll_cons, keepAll_nil, keepAll_cons, giveAll_nil, giveAll_cons, leave_tmp, leave_at, isLst_at, isAt_at, putAt_at, tgs_var, forL_nil, forL_cons, calling_none, calling_some, lend_noneE, lend_zero, lend_succ, lentK_fz, lentK_at, putBack_at, wpS, wpSet, wpOpt, wpIte, wpLeave, test_def, boolK_t, boolK_f, kid0, kid1, kid2, frz_fz, shal_fz, frz_nil, shal_nil, frz_ints, shal_ints, varK_dk, nodeK_dk, getAt_nil, getAt_dk0, setAt_nil, setAt_dk0, putD_dk2, negK_int, notK_bool, cmp_eqI, cmp_neI, cmp_ltI, cmp_leI, cmp_gtI, cmp_geI, cmp_neN, tru_bool, add_int, sub_int, bi_intI, bi_intB, bi_absI, rngK_2, limE, wpBoolK, behind_rt0, behind_rtN, if_true, if_false, Bool.false_eq_true, Bool.not_true, Bool.not_false, Bool.true_eq_false, List.isEmpty_nil, List.isEmpty_cons, decide_true, decide_false, List.isEmpty, Nat.zero_le, decide_eq_true_eq, List.getElem?_cons_zero, List.getElem?_cons_succ, List.set_cons_zero, List.set_cons_succ, List.length_cons, List.length_nil, List.map_cons, List.map_nil, List.cons_append, List.nil_append, List.replicate, Nat.reduceAdd, Nat.reduceSub, Nat.reduceLT, Nat.reduceLeDiff, true_and, and_true, m0, calling_none, lend_noneE, column_of_ok h0 ws i hl (show 1 ≤ n by omega), z]
    · rw [List.drop_of_length_le (by simp; omega)] at hr
      cases hr
  · obtain ⟨i, x, hi, hd, hr, rfl⟩ := h
    have ei : i = w := by
      have := congrArg List.length hr
      simp [intsL] at this
      omega
    subst ei
    have hd2 : dep ws 0 i = i := by rw [hd]; simp [dep]
    simp only [bind_bnd, wp_bnd, wp_ret, wp_bad, ev_var, ev_lit, ev_bin, ev_neg, ev_cmp, ev_and, ev_or, ev_not, ev_ite, ev_tup, ev_lst, ev_idx, ev_slc, ev_call, ev_kcall, ev_bi, ev_comp, ev_meth, evs_nil, evs_cons, evo_nil, evo_cons, evc_nil, evc_cons, evi_of, evi_rng, evi_enm, evi_zip, evi_rvs, exs_nil, exs_cons, ex_expr, ex_set, ex_unp, ex_par, ex_put, ex_ite, ex_whl, ex_fr, ex_rt, stores_nil, stores_var, opd_tmp, opd_at, val_tmp, val_atE, valD_def, see_fz, see_at, keep_fz, keep_at, give_fz, give_at, slotAt_def, varK_fz, varK_lst, idxK_fz, idxK_at, nodeK_fz, nodeK_lst, kidK_fz, kidK_lst, seeAll_nil, seeAll_cons, keepAll_nil, keepAll_cons, giveAll_nil, giveAll_cons, leave_tmp, leave_at, isLst_at, isAt_at, putAt_at, tgs_var, forL_nil, forL_cons, calling_none, calling_some, lend_noneE, lend_zero, lend_succ, lentK_fz, lentK_at, putBack_at, wpS, wpSet, wpOpt, wpIte, wpLeave, test_def, boolK_t, boolK_f, kid0, kid1, kid2, frz_fz, shal_fz, frz_nil, shal_nil, frz_ints, shal_ints, varK_dk, nodeK_dk, getAt_nil, getAt_dk0, setAt_nil, setAt_dk0, putD_dk2, negK_int, notK_bool, cmp_eqI, cmp_neI, cmp_ltI, cmp_leI, cmp_gtI, cmp_geI, cmp_neN, tru_bool, add_int, sub_int, bi_intI, bi_intB, bi_absI, rngK_2, limE, wpBoolK, behind_rt0, behind_rtN, if_true, if_false, Bool.false_eq_true, Bool.not_true, Bool.not_false, Bool.true_eq_false, List.isEmpty_nil, List.isEmpty_cons, decide_true, decide_false, List.isEmpty, Nat.zero_le, decide_eq_true_eq, List.getElem?_cons_zero, List.getElem?_cons_succ, List.set_cons_zero, List.set_cons_succ, List.length_cons, List.length_nil, List.map_cons, List.map_nil, List.cons_append, List.nil_append, List.replicate, Nat.reduceAdd, Nat.reduceSub, Nat.reduceLT, Nat.reduceLeDiff, true_and, and_true, hdone _ hd2]
end HW
end

section
set_option linter.all false
set_option maxHeartbeats 4000000
set_option maxRecDepth 4000
/-! # Plain: agree; the law's own bits and columns -/
namespace HW
open PySem PyProof.Rows PySem.W
def xors : List Int → List Int → List Int
  | x :: xs, y :: ys => Builtin.bitXor x y :: xors xs ys
  | _, _ => []
def xorF : PyData → PyData
  | .tuple [.int x, .int y] => .int (Builtin.bitXor x y)
  | d => d
theorem xor_map : ∀ a b : List Int, (zipL (intsL a) (intsL b)).map xorF = intsL (xors a b)
  | [], b => by simp [zipL, intsL, xors]
  | x :: a, [] => by simp [zipL, intsL, xors]
  | x :: a, y :: b => by
    show xorF (.tuple [.int x, .int y]) :: (zipL (intsL a) (intsL b)).map xorF = .int (Builtin.bitXor x y) :: intsL (xors a b)
    rw [xor_map a b]; rfl
theorem zip_mem : ∀ {a b : List Int} {d : PyData}, d ∈ zipL (intsL a) (intsL b) → ∃ x y, d = .tuple [.int x, .int y]
  | [], b, d, h => by simp [zipL, intsL] at h
  | x :: a, [], d, h => by simp [zipL, intsL] at h
  | x :: a, y :: b, d, h => by
    rcases List.mem_cons.mp (show d ∈ .tuple [.int x, .int y] :: zipL (intsL a) (intsL b) from h) with rfl | h
    · exact ⟨x, y, rfl⟩
    · exact zip_mem h
theorem zip_len : ∀ {a b : List PyData}, (zipL a b).length ≤ a.length
  | [], _ => by simp [zipL]
  | x :: a, [] => by simp [zipL]
  | x :: a, y :: b => by simp [zipL]; exact zip_len
theorem xors_len : ∀ a b : List Int, (xors a b).length ≤ a.length
  | [], _ => by simp [xors]
  | x :: a, [] => by simp [xors]
  | x :: a, y :: b => by simp [xors]; exact xors_len a b
theorem zipK_tt {a b : List PyData} : zipK [.tuple a, .tuple b] = ret (zipL a b) := rfl
theorem agree_ok {G : Nat → Option Fn} (h0 : G i_column_of = some f_column_of) (h1 : G i_depth = some f_depth) (hG : G i_agree = some f_agree) (a b : List Int) (w : Nat) {W : Int} (hW : W = w) (hw : w ≤ 1000) (hl : a.length ≤ 1000) {n : Nat} (hn : 3 ≤ n) :
    callN G n i_agree [.fz (.int W), .fz (.tuple (intsL a)), .fz (.tuple (intsL b))] = .ok (.fz (.int (dep (xors a b) 0 w : Nat))) none := by
  obtain ⟨n, rfl⟩ : ∃ m, n = m + 1 := ⟨n - 1, by omega⟩
  refine call_wp hG rfl ?_
  have m1 := muN h1
  have dk := depth_ok h0 h1 (xors a b) w hW hw (Nat.le_trans (xors_len a b) hl) (n := n) (by omega)
  clear hW
  simp only [f_agree, bind_bnd, wp_bnd, wp_ret, wp_bad, ev_var, ev_lit, ev_bin, ev_neg, ev_cmp, ev_and, ev_or, ev_not, ev_ite, ev_tup, ev_lst, ev_idx, ev_slc, ev_call, ev_kcall, ev_bi, ev_comp, ev_meth, evs_nil, evs_cons, evo_nil, evo_cons, evc_nil, evc_cons, evi_of, evi_rng, evi_enm, evi_zip, evi_rvs, exs_nil, exs_cons, ex_expr, ex_set, ex_unp, ex_par, ex_put, ex_ite, ex_whl, ex_fr, ex_rt, stores_nil, stores_var, opd_tmp, opd_at, val_tmp, val_atE, valD_def, see_fz, see_at, keep_fz, keep_at, give_fz, give_at, slotAt_def, varK_fz, varK_lst, idxK_fz, idxK_at, nodeK_fz, nodeK_lst, kidK_fz, kidK_lst, seeAll_nil, seeAll_cons, keepAll_nil, keepAll_cons, giveAll_nil, giveAll_cons, leave_tmp, leave_at, isLst_at, isAt_at, putAt_at, tgs_var, forL_nil, forL_cons, calling_none, calling_some, lend_noneE, lend_zero, lend_succ, lentK_fz, lentK_at, putBack_at, wpS, wpSet, wpOpt, wpIte, wpLeave, test_def, boolK_t, boolK_f, kid0, kid1, kid2, frz_fz, shal_fz, frz_nil, shal_nil, frz_ints, shal_ints, varK_dk, nodeK_dk, getAt_nil, getAt_dk0, setAt_nil, setAt_dk0, putD_dk2, negK_int, notK_bool, cmp_eqI, cmp_neI, cmp_ltI, cmp_leI, cmp_gtI, cmp_geI, cmp_neN, tru_bool, add_int, sub_int, bi_intI, bi_intB, bi_absI, rngK_2, limE, wpBoolK, behind_rt0, behind_rtN, if_true, if_false, Bool.false_eq_true, Bool.not_true, Bool.not_false, Bool.true_eq_false, List.isEmpty_nil, List.isEmpty_cons, decide_true, decide_false, List.isEmpty, Nat.zero_le, decide_eq_true_eq, List.getElem?_cons_zero, List.getElem?_cons_succ, List.set_cons_zero, List.set_cons_succ, List.length_cons, List.length_nil, List.map_cons, List.map_nil, List.cons_append, List.nil_append, List.replicate, Nat.reduceAdd, Nat.reduceSub, Nat.reduceLT, Nat.reduceLeDiff, true_and, and_true, m1, zipK_tt]
  refine comp_map xorF rfl (by refine lim_big (Nat.le_trans zip_len ?_); rw [len_ints]; exact hl) (fun d hd => ?_) ?_
  · obtain ⟨x, y, rfl⟩ := zip_mem hd
    simp only [bind_bnd, wp_bnd, wp_ret, wp_bad, ev_var, ev_lit, ev_bin, ev_neg, ev_cmp, ev_and, ev_or, ev_not, ev_ite, ev_tup, ev_lst, ev_idx, ev_slc, ev_call, ev_kcall, ev_bi, ev_comp, ev_meth, evs_nil, evs_cons, evo_nil, evo_cons, evc_nil, evc_cons, evi_of, evi_rng, evi_enm, evi_zip, evi_rvs, exs_nil, exs_cons, ex_expr, ex_set, ex_unp, ex_par, ex_put, ex_ite, ex_whl, ex_fr, ex_rt, stores_nil, stores_var, opd_tmp, opd_at, val_tmp, val_atE, valD_def, see_fz, see_at, keep_fz, keep_at, give_fz, give_at, slotAt_def, varK_fz, varK_lst, idxK_fz, idxK_at, nodeK_fz, nodeK_lst, kidK_fz, kidK_lst, seeAll_nil, seeAll_cons, keepAll_nil, keepAll_cons, giveAll_nil, giveAll_cons, leave_tmp, leave_at, isLst_at, isAt_at, putAt_at, tgs_var, forL_nil, forL_cons, calling_none, calling_some, lend_noneE, lend_zero, lend_succ, lentK_fz, lentK_at, putBack_at, wpS, wpSet, wpOpt, wpIte, wpLeave, test_def, boolK_t, boolK_f, kid0, kid1, kid2, frz_fz, shal_fz, frz_nil, shal_nil, frz_ints, shal_ints, varK_dk, nodeK_dk, getAt_nil, getAt_dk0, setAt_nil, setAt_dk0, putD_dk2, negK_int, notK_bool, cmp_eqI, cmp_neI, cmp_ltI, cmp_leI, cmp_gtI, cmp_geI, cmp_neN, tru_bool, add_int, sub_int, bi_intI, bi_intB, bi_absI, rngK_2, limE, wpBoolK, behind_rt0, behind_rtN, if_true, if_false, Bool.false_eq_true, Bool.not_true, Bool.not_false, Bool.true_eq_false, List.isEmpty_nil, List.isEmpty_cons, decide_true, decide_false, List.isEmpty, Nat.zero_le, decide_eq_true_eq, List.getElem?_cons_zero, List.getElem?_cons_succ, List.set_cons_zero, List.set_cons_succ, List.length_cons, List.length_nil, List.map_cons, List.map_nil, List.cons_append, List.nil_append, List.replicate, Nat.reduceAdd, Nat.reduceSub, Nat.reduceLT, Nat.reduceLeDiff, true_and, and_true, tgs_two, xor_int, valD_def]
    exact ⟨rfl, rfl⟩
  · rw [xor_map]
    simp only [bind_bnd, wp_bnd, wp_ret, wp_bad, ev_var, ev_lit, ev_bin, ev_neg, ev_cmp, ev_and, ev_or, ev_not, ev_ite, ev_tup, ev_lst, ev_idx, ev_slc, ev_call, ev_kcall, ev_bi, ev_comp, ev_meth, evs_nil, evs_cons, evo_nil, evo_cons, evc_nil, evc_cons, evi_of, evi_rng, evi_enm, evi_zip, evi_rvs, exs_nil, exs_cons, ex_expr, ex_set, ex_unp, ex_par, ex_put, ex_ite, ex_whl, ex_fr, ex_rt, stores_nil, stores_var, opd_tmp, opd_at, val_tmp, val_atE, valD_def, see_fz, see_at, keep_fz, keep_at, give_fz, give_at, slotAt_def, varK_fz, varK_lst, idxK_fz, idxK_at, nodeK_fz, nodeK_lst, kidK_fz, kidK_lst, seeAll_nil, seeAll_cons, keepAll_nil, keepAll_cons, giveAll_nil, giveAll_cons, leave_tmp, leave_at, isLst_at, isAt_at, putAt_at, tgs_var, forL_nil, forL_cons, calling_none, calling_some, lend_noneE, lend_zero, lend_succ, lentK_fz, lentK_at, putBack_at, wpS, wpSet, wpOpt, wpIte, wpLeave, test_def, boolK_t, boolK_f, kid0, kid1, kid2, frz_fz, shal_fz, frz_nil, shal_nil, frz_ints, shal_ints, varK_dk, nodeK_dk, getAt_nil, getAt_dk0, setAt_nil, setAt_dk0, putD_dk2, negK_int, notK_bool, cmp_eqI, cmp_neI, cmp_ltI, cmp_leI, cmp_gtI, cmp_geI, cmp_neN, tru_bool, add_int, sub_int, bi_intI, bi_intB, bi_absI, rngK_2, limE, wpBoolK, behind_rt0, behind_rtN, if_true, if_false, Bool.false_eq_true, Bool.not_true, Bool.not_false, Bool.true_eq_false, List.isEmpty_nil, List.isEmpty_cons, decide_true, decide_false, List.isEmpty, Nat.zero_le, decide_eq_true_eq, List.getElem?_cons_zero, List.getElem?_cons_succ, List.set_cons_zero, List.set_cons_succ, List.length_cons, List.length_nil, List.map_cons, List.map_nil, List.cons_append, List.nil_append, List.replicate, Nat.reduceAdd, Nat.reduceSub, Nat.reduceLT, Nat.reduceLeDiff, true_and, and_true, frz_fzs', kA_tuple, bi_tupL, calling_none, lend_noneE, dk]
/-! ## the law's own -/
def bitsL (x : Int) (w : Nat) : List Int := (List.range w).map fun k => bit x k
theorem div_two {x : Int} {k : Nat} : x / 2 ^ k / 2 = x / 2 ^ (k + 1) := by
  rw [Int.pow_succ, Int.ediv_ediv_of_nonneg (Int.le_of_lt (kbt_pos k))]
theorem law_bits_ok {G : Nat → Option Fn} (hG : G i_law_bits = some f_law_bits) (x : Int) (w : Nat) {W : Int} (hW : W = w) (hw : w ≤ 1000) {n : Nat} (hn : 1 ≤ n) :
    callN G n i_law_bits [.fz (.int x), .fz (.int W)] = .ok (.lst ((intsL (bitsL x w)).map .fz)) none := by
  obtain ⟨n, rfl⟩ : ∃ m, n = m + 1 := ⟨n - 1, by omega⟩
  refine call_wp hG rfl ?_
  have hr : rngK [.int W] = ret (intsL ((List.range w).map fun (k : Nat) => (k : Int))) := by rw [hW]; exact rngK_nat (by omega)
  clear hW
  have e9 : ∀ ps : List Opd, biArgs .int ps = seeAll ps := fun ps => biArgs_see rfl
  have s1 : ∀ y : Int, binD .mod (.int y) (.int 2) = some (.fz (.int (y % 2))) := fun y => mod_int (by decide)
  have s2 : ∀ y : Int, binD .fdiv (.int y) (.int 2) = some (.fz (.int (y / 2))) := fun y => div_int (by decide) (by decide)
  simp only [f_law_bits, bind_bnd, wp_bnd, wp_ret, wp_bad, ev_var, ev_lit, ev_bin, ev_neg, ev_cmp, ev_and, ev_or, ev_not, ev_ite, ev_tup, ev_lst, ev_idx, ev_slc, ev_call, ev_kcall, ev_bi, ev_comp, ev_meth, evs_nil, evs_cons, evo_nil, evo_cons, evc_nil, evc_cons, evi_of, evi_rng, evi_enm, evi_zip, evi_rvs, exs_nil, exs_cons, ex_expr, ex_set, ex_unp, ex_par, ex_put, ex_ite, ex_whl, ex_fr, ex_rt, stores_nil, stores_var, opd_tmp, opd_at, val_tmp, val_atE, valD_def, see_fz, see_at, keep_fz, keep_at, give_fz, give_at, slotAt_def, varK_fz, varK_lst, idxK_fz, idxK_at, nodeK_fz, nodeK_lst, kidK_fz, kidK_lst, seeAll_nil, seeAll_cons, keepAll_nil, keepAll_cons, giveAll_nil, giveAll_cons, leave_tmp, leave_at, isLst_at, isAt_at, putAt_at, tgs_var, forL_nil, forL_cons, calling_none, calling_some, lend_noneE, lend_zero, lend_succ, lentK_fz, lentK_at, putBack_at, wpS, wpSet, wpOpt, wpIte, wpLeave, test_def, boolK_t, boolK_f, kid0, kid1, kid2, frz_fz, shal_fz, frz_nil, shal_nil, frz_ints, shal_ints, varK_dk, nodeK_dk, getAt_nil, getAt_dk0, setAt_nil, setAt_dk0, putD_dk2, negK_int, notK_bool, cmp_eqI, cmp_neI, cmp_ltI, cmp_leI, cmp_gtI, cmp_geI, cmp_neN, tru_bool, add_int, sub_int, bi_intI, bi_intB, bi_absI, rngK_2, limE, wpBoolK, behind_rt0, behind_rtN, if_true, if_false, Bool.false_eq_true, Bool.not_true, Bool.not_false, Bool.true_eq_false, List.isEmpty_nil, List.isEmpty_cons, decide_true, decide_false, List.isEmpty, Nat.zero_le, decide_eq_true_eq, List.getElem?_cons_zero, List.getElem?_cons_succ, List.set_cons_zero, List.set_cons_succ, List.length_cons, List.length_nil, List.map_cons, List.map_nil, List.cons_append, List.nil_append, List.replicate, Nat.reduceAdd, Nat.reduceSub, Nat.reduceLT, Nat.reduceLeDiff, true_and, and_true, valD_def, hr]
  refine for_inv (fun rest e => ∃ (i : Nat) (y : Option OD), i ≤ w ∧ rest = intsL (((List.range w).drop i).map fun (k : Nat) => (k : Int)) ∧ e = [some (.fz (.int x)), some (.fz (.int W)), some (.lst ((intsL (bitsL x i)).map .fz)), some (.fz (.int (x / 2 ^ i))), y]) (fun d ds e h => ?_) (fun e h => ?_) _ _ ⟨0, none, Nat.zero_le _, rfl, by simp [bitsL, intsL]⟩
  · obtain ⟨i, y, hi, hr, rfl⟩ := h
    by_cases lt : i < w
    · rw [List.drop_eq_getElem_cons (by simpa using lt)] at hr
      injection hr with h1 h2
      rw [List.getElem_range] at h1
      subst h1 h2
      have s3 : bitsL x (i + 1) = bitsL x i ++ [x / 2 ^ i % 2] := by simp [bitsL, List.range_succ, bit]
      simp only [bind_bnd, wp_bnd, wp_ret, wp_bad, ev_var, ev_lit, ev_bin, ev_neg, ev_cmp, ev_and, ev_or, ev_not, ev_ite, ev_tup, ev_lst, ev_idx, ev_slc, ev_call, ev_kcall, ev_bi, ev_comp, ev_meth, evs_nil, evs_cons, evo_nil, evo_cons, evc_nil, evc_cons, evi_of, evi_rng, evi_enm, evi_zip, evi_rvs, exs_nil, exs_cons, ex_expr, ex_set, ex_unp, ex_par, ex_put, ex_ite, ex_whl, ex_fr, ex_rt, stores_nil, stores_var, opd_tmp, opd_at, val_tmp, val_atE, valD_def, see_fz, see_at, keep_fz, keep_at, give_fz, give_at, slotAt_def, varK_fz, varK_lst, idxK_fz, idxK_at, nodeK_fz, nodeK_lst, kidK_fz, kidK_lst, seeAll_nil, seeAll_cons, keepAll_nil, keepAll_cons, giveAll_nil, giveAll_cons, leave_tmp, leave_at, isLst_at, isAt_at, putAt_at, tgs_var, forL_nil, forL_cons, calling_none, calling_some, lend_noneE, lend_zero, lend_succ, lentK_fz, lentK_at, putBack_at, wpS, wpSet, wpOpt, wpIte, wpLeave, test_def, boolK_t, boolK_f, kid0, kid1, kid2, frz_fz, shal_fz, frz_nil, shal_nil, frz_ints, shal_ints, varK_dk, nodeK_dk, getAt_nil, getAt_dk0, setAt_nil, setAt_dk0, putD_dk2, negK_int, notK_bool, cmp_eqI, cmp_neI, cmp_ltI, cmp_leI, cmp_gtI, cmp_geI, cmp_neN, tru_bool, add_int, sub_int, bi_intI, bi_intB, bi_absI, rngK_2, limE, wpBoolK, behind_rt0, behind_rtN, if_true, if_false, Bool.false_eq_true, Bool.not_true, Bool.not_false, Bool.true_eq_false, List.isEmpty_nil, List.isEmpty_cons, decide_true, decide_false, List.isEmpty, Nat.zero_le, decide_eq_true_eq, List.getElem?_cons_zero, List.getElem?_cons_succ, List.set_cons_zero, List.set_cons_succ, List.length_cons, List.length_nil, List.map_cons, List.map_nil, List.cons_append, List.nil_append, List.replicate, Nat.reduceAdd, Nat.reduceSub, Nat.reduceLT, Nat.reduceLeDiff, true_and, and_true, varK_ints, isLst_at, getAt_ints, e9, s1, s2, div_two, app_ints (cs := bitsL x i) (by simp [bitsL]; omega)]
      exact ⟨i + 1, _, lt, rfl, by rw [s3]⟩
    · rw [List.drop_of_length_le (by simp; omega)] at hr
      cases hr
  · obtain ⟨i, y, hi, hr, rfl⟩ := h
    have ei : i = w := by
      have := congrArg List.length hr
      simp [intsL] at this
      omega
    subst ei
    simp only [bind_bnd, wp_bnd, wp_ret, wp_bad, ev_var, ev_lit, ev_bin, ev_neg, ev_cmp, ev_and, ev_or, ev_not, ev_ite, ev_tup, ev_lst, ev_idx, ev_slc, ev_call, ev_kcall, ev_bi, ev_comp, ev_meth, evs_nil, evs_cons, evo_nil, evo_cons, evc_nil, evc_cons, evi_of, evi_rng, evi_enm, evi_zip, evi_rvs, exs_nil, exs_cons, ex_expr, ex_set, ex_unp, ex_par, ex_put, ex_ite, ex_whl, ex_fr, ex_rt, stores_nil, stores_var, opd_tmp, opd_at, val_tmp, val_atE, valD_def, see_fz, see_at, keep_fz, keep_at, give_fz, give_at, slotAt_def, varK_fz, varK_lst, idxK_fz, idxK_at, nodeK_fz, nodeK_lst, kidK_fz, kidK_lst, seeAll_nil, seeAll_cons, keepAll_nil, keepAll_cons, giveAll_nil, giveAll_cons, leave_tmp, leave_at, isLst_at, isAt_at, putAt_at, tgs_var, forL_nil, forL_cons, calling_none, calling_some, lend_noneE, lend_zero, lend_succ, lentK_fz, lentK_at, putBack_at, wpS, wpSet, wpOpt, wpIte, wpLeave, test_def, boolK_t, boolK_f, kid0, kid1, kid2, frz_fz, shal_fz, frz_nil, shal_nil, frz_ints, shal_ints, varK_dk, nodeK_dk, getAt_nil, getAt_dk0, setAt_nil, setAt_dk0, putD_dk2, negK_int, notK_bool, cmp_eqI, cmp_neI, cmp_ltI, cmp_leI, cmp_gtI, cmp_geI, cmp_neN, tru_bool, add_int, sub_int, bi_intI, bi_intB, bi_absI, rngK_2, limE, wpBoolK, behind_rt0, behind_rtN, if_true, if_false, Bool.false_eq_true, Bool.not_true, Bool.not_false, Bool.true_eq_false, List.isEmpty_nil, List.isEmpty_cons, decide_true, decide_false, List.isEmpty, Nat.zero_le, decide_eq_true_eq, List.getElem?_cons_zero, List.getElem?_cons_succ, List.set_cons_zero, List.set_cons_succ, List.length_cons, List.length_nil, List.map_cons, List.map_nil, List.cons_append, List.nil_append, List.replicate, Nat.reduceAdd, Nat.reduceSub, Nat.reduceLT, Nat.reduceLeDiff, true_and, and_true, varK_ints]
end HW
end

section
set_option linter.all false
set_option maxHeartbeats 4000000
set_option maxRecDepth 4000
/-! # Plain: the law's own columns -/
namespace HW
open PySem PyProof.Rows PySem.W
def rowsL (ws : List Int) (w : Nat) : List PyData := ws.map fun x => .list (intsL (bitsL x w))
def rowF (w : Nat) : PyData → PyData
  | .int x => .list (intsL (bitsL x w))
  | d => d
theorem rows_map (ws : List Int) (w : Nat) : (intsL ws).map (rowF w) = rowsL ws w := by
  unfold intsL rowsL; rw [List.map_map]; rfl
theorem place_nat {n i : Nat} (h : i < n) : place n (i : Int) = some i := by
  unfold place
  rw [if_pos (Int.natCast_nonneg i), if_pos (by omega), Int.toNat_natCast]
theorem idx_ints {cs : List Int} {i : Nat} {x : Int} (h : cs[i]? = some x) : idxD (.list (intsL cs)) (.int (i : Int)) = some (.int x) := by
  have l : i < cs.length := by
    rcases Nat.lt_or_ge i cs.length with z | z
    · exact z
    · rw [List.getElem?_eq_none z] at h; cases h
  show (place (intsL cs).length (i : Int)).bind (fun j => (intsL cs)[j]?) = _
  rw [len_ints, place_nat l]
  show (cs.map PyData.int)[i]? = _
  rw [List.getElem?_map, h]; rfl
theorem idx_bits {x : Int} {w k : Nat} (h : k < w) : idxD (.list (intsL (bitsL x w))) (.int (k : Int)) = some (.int (bit x k)) :=
  idx_ints (by simp [bitsL, h])
theorem bit_mul {x : Int} {k : Nat} (y : Int) : binD .mul (.int (bit x k)) (.int y) = some (.fz (.int (bit x k * y))) := by
  refine mul_int (mulOk_l ?_ ?_) <;> rcases bit01 x k with e | e <;> rw [e] <;> decide
theorem frz_fzsE {ds : List PyData} : frz (fzs ds) = some (.list ds) := frz_fzs ds
theorem law_columns_ok {G : Nat → Option Fn} (h0 : G i_law_bits = some f_law_bits) (hG : G i_law_columns = some f_law_columns) (ws : List Int) (w : Nat) {W : Int} (hW : W = w) (hw : w ≤ 1000) (hl : ws.length ≤ 1000) {n : Nat} (hn : 2 ≤ n) :
    callN G n i_law_columns [.fz (.tuple (intsL ws)), .fz (.int W)] = .ok (.lst ((intsL (cols w ws)).map .fz)) none := by
  obtain ⟨n, rfl⟩ : ∃ m, n = m + 1 := ⟨n - 1, by omega⟩
  refine call_wp hG rfl ?_
  have m0 := muN h0
  have hr : rngK [.int W] = ret (intsL ((List.range w).map fun (k : Nat) => (k : Int))) := by rw [hW]; exact rngK_nat (by omega)
  have hb : ∀ x : Int, callN G n i_law_bits [.fz (.int x), .fz (.int W)] = .ok (.lst ((intsL (bitsL x w)).map .fz)) none := fun x => law_bits_ok h0 x w hW hw (by omega)
  clear hW
  simp only [f_law_columns, bind_bnd, wp_bnd, wp_ret, wp_bad, ev_var, ev_lit, ev_bin, ev_neg, ev_cmp, ev_and, ev_or, ev_not, ev_ite, ev_tup, ev_lst, ev_idx, ev_slc, ev_call, ev_kcall, ev_bi, ev_comp, ev_meth, evs_nil, evs_cons, evo_nil, evo_cons, evc_nil, evc_cons, evi_of, evi_rng, evi_enm, evi_zip, evi_rvs, exs_nil, exs_cons, ex_expr, ex_set, ex_unp, ex_par, ex_put, ex_ite, ex_whl, ex_fr, ex_rt, stores_nil, stores_var, opd_tmp, opd_at, val_tmp, val_atE, valD_def, see_fz, see_at, keep_fz, keep_at, give_fz, give_at, slotAt_def, varK_fz, varK_lst, idxK_fz, idxK_at, nodeK_fz, nodeK_lst, kidK_fz, kidK_lst, seeAll_nil, seeAll_cons, keepAll_nil, keepAll_cons, giveAll_nil, giveAll_cons, leave_tmp, leave_at, isLst_at, isAt_at, putAt_at, tgs_var, forL_nil, forL_cons, calling_none, calling_some, lend_noneE, lend_zero, lend_succ, lentK_fz, lentK_at, putBack_at, wpS, wpSet, wpOpt, wpIte, wpLeave, test_def, boolK_t, boolK_f, kid0, kid1, kid2, frz_fz, shal_fz, frz_nil, shal_nil, frz_ints, shal_ints, varK_dk, nodeK_dk, getAt_nil, getAt_dk0, setAt_nil, setAt_dk0, putD_dk2, negK_int, notK_bool, cmp_eqI, cmp_neI, cmp_ltI, cmp_leI, cmp_gtI, cmp_geI, cmp_neN, tru_bool, add_int, sub_int, bi_intI, bi_intB, bi_absI, rngK_2, limE, wpBoolK, behind_rt0, behind_rtN, if_true, if_false, Bool.false_eq_true, Bool.not_true, Bool.not_false, Bool.true_eq_false, List.isEmpty_nil, List.isEmpty_cons, decide_true, decide_false, List.isEmpty, Nat.zero_le, decide_eq_true_eq, List.getElem?_cons_zero, List.getElem?_cons_succ, List.set_cons_zero, List.set_cons_succ, List.length_cons, List.length_nil, List.map_cons, List.map_nil, List.cons_append, List.nil_append, List.replicate, Nat.reduceAdd, Nat.reduceSub, Nat.reduceLT, Nat.reduceLeDiff, true_and, and_true, valD_def, seqD_tup, m0]
  refine comp_map (rowF w) rfl (by rw [len_ints]; exact lim_big hl) (fun d hd => ?_) ?_
  · obtain ⟨x, _, rfl⟩ := mem_ints hd
    simp only [bind_bnd, wp_bnd, wp_ret, wp_bad, ev_var, ev_lit, ev_bin, ev_neg, ev_cmp, ev_and, ev_or, ev_not, ev_ite, ev_tup, ev_lst, ev_idx, ev_slc, ev_call, ev_kcall, ev_bi, ev_comp, ev_meth, evs_nil, evs_cons, evo_nil, evo_cons, evc_nil, evc_cons, evi_of, evi_rng, evi_enm, evi_zip, evi_rvs, exs_nil, exs_cons, ex_expr, ex_set, ex_unp, ex_par, ex_put, ex_ite, ex_whl, ex_fr, ex_rt, stores_nil, stores_var, opd_tmp, opd_at, val_tmp, val_atE, valD_def, see_fz, see_at, keep_fz, keep_at, give_fz, give_at, slotAt_def, varK_fz, varK_lst, idxK_fz, idxK_at, nodeK_fz, nodeK_lst, kidK_fz, kidK_lst, seeAll_nil, seeAll_cons, keepAll_nil, keepAll_cons, giveAll_nil, giveAll_cons, leave_tmp, leave_at, isLst_at, isAt_at, putAt_at, tgs_var, forL_nil, forL_cons, calling_none, calling_some, lend_noneE, lend_zero, lend_succ, lentK_fz, lentK_at, putBack_at, wpS, wpSet, wpOpt, wpIte, wpLeave, test_def, boolK_t, boolK_f, kid0, kid1, kid2, frz_fz, shal_fz, frz_nil, shal_nil, frz_ints, shal_ints, varK_dk, nodeK_dk, getAt_nil, getAt_dk0, setAt_nil, setAt_dk0, putD_dk2, negK_int, notK_bool, cmp_eqI, cmp_neI, cmp_ltI, cmp_leI, cmp_gtI, cmp_geI, cmp_neN, tru_bool, add_int, sub_int, bi_intI, bi_intB, bi_absI, rngK_2, limE, wpBoolK, behind_rt0, behind_rtN, if_true, if_false, Bool.false_eq_true, Bool.not_true, Bool.not_false, Bool.true_eq_false, List.isEmpty_nil, List.isEmpty_cons, decide_true, decide_false, List.isEmpty, Nat.zero_le, decide_eq_true_eq, List.getElem?_cons_zero, List.getElem?_cons_succ, List.set_cons_zero, List.set_cons_succ, List.length_cons, List.length_nil, List.map_cons, List.map_nil, List.cons_append, List.nil_append, List.replicate, Nat.reduceAdd, Nat.reduceSub, Nat.reduceLT, Nat.reduceLeDiff, true_and, and_true, calling_none, lend_noneE, hb, valD_def]
    exact ⟨rfl, rfl⟩
  · rw [rows_map]
    simp only [bind_bnd, wp_bnd, wp_ret, wp_bad, ev_var, ev_lit, ev_bin, ev_neg, ev_cmp, ev_and, ev_or, ev_not, ev_ite, ev_tup, ev_lst, ev_idx, ev_slc, ev_call, ev_kcall, ev_bi, ev_comp, ev_meth, evs_nil, evs_cons, evo_nil, evo_cons, evc_nil, evc_cons, evi_of, evi_rng, evi_enm, evi_zip, evi_rvs, exs_nil, exs_cons, ex_expr, ex_set, ex_unp, ex_par, ex_put, ex_ite, ex_whl, ex_fr, ex_rt, stores_nil, stores_var, opd_tmp, opd_at, val_tmp, val_atE, valD_def, see_fz, see_at, keep_fz, keep_at, give_fz, give_at, slotAt_def, varK_fz, varK_lst, idxK_fz, idxK_at, nodeK_fz, nodeK_lst, kidK_fz, kidK_lst, seeAll_nil, seeAll_cons, keepAll_nil, keepAll_cons, giveAll_nil, giveAll_cons, leave_tmp, leave_at, isLst_at, isAt_at, putAt_at, tgs_var, forL_nil, forL_cons, calling_none, calling_some, lend_noneE, lend_zero, lend_succ, lentK_fz, lentK_at, putBack_at, wpS, wpSet, wpOpt, wpIte, wpLeave, test_def, boolK_t, boolK_f, kid0, kid1, kid2, frz_fz, shal_fz, frz_nil, shal_nil, frz_ints, shal_ints, varK_dk, nodeK_dk, getAt_nil, getAt_dk0, setAt_nil, setAt_dk0, putD_dk2, negK_int, notK_bool, cmp_eqI, cmp_neI, cmp_ltI, cmp_leI, cmp_gtI, cmp_geI, cmp_neN, tru_bool, add_int, sub_int, bi_intI, bi_intB, bi_absI, rngK_2, limE, wpBoolK, behind_rt0, behind_rtN, if_true, if_false, Bool.false_eq_true, Bool.not_true, Bool.not_false, Bool.true_eq_false, List.isEmpty_nil, List.isEmpty_cons, decide_true, decide_false, List.isEmpty, Nat.zero_le, decide_eq_true_eq, List.getElem?_cons_zero, List.getElem?_cons_succ, List.set_cons_zero, List.set_cons_succ, List.length_cons, List.length_nil, List.map_cons, List.map_nil, List.cons_append, List.nil_append, List.replicate, Nat.reduceAdd, Nat.reduceSub, Nat.reduceLT, Nat.reduceLeDiff, true_and, and_true, hr]
    refine for_inv (fun rest e => ∃ (i : Nat) (r : OD) (a b c d : Option OD), i ≤ w ∧ (r = fzs (rowsL ws w) ∨ r = .fz (.list (rowsL ws w))) ∧ rest = intsL (((List.range w).drop i).map fun (k : Nat) => (k : Int)) ∧ e = [some (.fz (.tuple (intsL ws))), some (.fz (.int W)), some r, some (.lst ((intsL (cols i ws)).map .fz)), a, b, c, d, none]) (fun d ds e h => ?_) (fun e h => ?_) _ _ ⟨0, _, none, none, none, none, Nat.zero_le _, .inl rfl, rfl, rfl⟩
    · obtain ⟨i, r, a, b, c, d', hi, hrr, hrest, rfl⟩ := h
      by_cases lt : i < w
      · rw [List.drop_eq_getElem_cons (by simpa using lt)] at hrest
        injection hrest with h1 h2
        rw [List.getElem_range] at h1
        subst h1 h2
        -- the inner loop
        have inner : ∀ P : Fl → Env → Prop, (∀ c d, P .nx [some (.fz (.tuple (intsL ws))), some (.fz (.int W)), some (.fz (.list (rowsL ws w))), some (.lst ((intsL (cols i ws)).map .fz)), some (.fz (.int i)), some (.fz (.int (colV ws i))), c, d, none]) →
            wp (forL (fun d => bnd (tgs (.tup [.var 6, .var 7]) d) fun _ => exs (fun g => (G g).bind fun x => x.mu) (callN G n) [.set 5 (.bin .add (.var 5) (.bin .mul (.idx (.var 7) (.var 4)) (.bin .shl (.lit (.int 1)) (.var 6))))]) (enumL 0 (rowsL ws w))) [some (.fz (.tuple (intsL ws))), some (.fz (.int W)), some (.fz (.list (rowsL ws w))), some (.lst ((intsL (cols i ws)).map .fz)), some (.fz (.int i)), some (.fz (.int 0)), c, d', none] P := by
          intro P hP
          refine for_inv (fun rest e => ∃ pre post c d, ws = pre ++ post ∧ rest = enumL pre.length (rowsL post w) ∧ e = [some (.fz (.tuple (intsL ws))), some (.fz (.int W)), some (.fz (.list (rowsL ws w))), some (.lst ((intsL (cols i ws)).map .fz)), some (.fz (.int i)), some (.fz (.int (colV pre i))), c, d, none]) (fun d ds e h => ?_) (fun e h => ?_) _ _ ⟨[], ws, c, d', rfl, rfl, rfl⟩
          · obtain ⟨pre, post, c, d', hws, hrest, rfl⟩ := h
            cases post with
            | nil => cases hrest
            | cons x post =>
              injection hrest with h1 h2
              subst h1 h2
              have hp : pre.length ≤ 1000 := by rw [hws] at hl; simp at hl; omega
              have s1 : binD .shl (.int 1) (.int (pre.length : Int)) = some (.fz (.int (1 * 2 ^ pre.length))) := shl_int (by decide) (by omega)
              have s2 : colV pre i + bit x i * (1 * 2 ^ pre.length) = colV (pre ++ [x]) i := by rw [colV_snoc, Int.one_mul]
              simp only [bind_bnd, wp_bnd, wp_ret, wp_bad, ev_var, ev_lit, ev_bin, ev_neg, ev_cmp, ev_and, ev_or, ev_not, ev_ite, ev_tup, ev_lst, ev_idx, ev_slc, ev_call, ev_kcall, ev_bi, ev_comp, ev_meth, evs_nil, evs_cons, evo_nil, evo_cons, evc_nil, evc_cons, evi_of, evi_rng, evi_enm, evi_zip, evi_rvs, exs_nil, exs_cons, ex_expr, ex_set, ex_unp, ex_par, ex_put, ex_ite, ex_whl, ex_fr, ex_rt, stores_nil, stores_var, opd_tmp, opd_at, val_tmp, val_atE, valD_def, see_fz, see_at, keep_fz, keep_at, give_fz, give_at, slotAt_def, varK_fz, varK_lst, idxK_fz, idxK_at, nodeK_fz, nodeK_lst, kidK_fz, kidK_lst, seeAll_nil, seeAll_cons, keepAll_nil, keepAll_cons, giveAll_nil, giveAll_cons, leave_tmp, leave_at, isLst_at, isAt_at, putAt_at, tgs_var, forL_nil, forL_cons, calling_none, calling_some, lend_noneE, lend_zero, lend_succ, lentK_fz, lentK_at, putBack_at, wpS, wpSet, wpOpt, wpIte, wpLeave, test_def, boolK_t, boolK_f, kid0, kid1, kid2, frz_fz, shal_fz, frz_nil, shal_nil, frz_ints, shal_ints, varK_dk, nodeK_dk, getAt_nil, getAt_dk0, setAt_nil, setAt_dk0, putD_dk2, negK_int, notK_bool, cmp_eqI, cmp_neI, cmp_ltI, cmp_leI, cmp_gtI, cmp_geI, cmp_neN, tru_bool, add_int, sub_int, bi_intI, bi_intB, bi_absI, rngK_2, limE, wpBoolK, behind_rt0, behind_rtN, if_true, if_false, Bool.false_eq_true, Bool.not_true, Bool.not_false, Bool.true_eq_false, List.isEmpty_nil, List.isEmpty_cons, decide_true, decide_false, List.isEmpty, Nat.zero_le, decide_eq_true_eq, List.getElem?_cons_zero, List.getElem?_cons_succ, List.set_cons_zero, List.set_cons_succ, List.length_cons, List.length_nil, List.map_cons, List.map_nil, List.cons_append, List.nil_append, List.replicate, Nat.reduceAdd, Nat.reduceSub, Nat.reduceLT, Nat.reduceLeDiff, true_and, and_true, tgs_two, idx_bits lt, s1, bit_mul, s2]
              exact ⟨pre ++ [x], post, _, _, by rw [hws]; simp, by rw [List.length_append]; rfl, rfl⟩
          · obtain ⟨pre, post, c, d', hws, hrest, rfl⟩ := h
            cases post with
            | nil =>
              rw [List.append_nil] at hws
              subst hws
              exact hP _ _
            | cons x post => cases hrest
        have s3 : cols (i + 1) ws = cols i ws ++ [colV ws i] := by simp [cols, List.range_succ]
        rcases hrr with rfl | rfl
        · simp only [bind_bnd, wp_bnd, wp_ret, wp_bad, ev_var, ev_lit, ev_bin, ev_neg, ev_cmp, ev_and, ev_or, ev_not, ev_ite, ev_tup, ev_lst, ev_idx, ev_slc, ev_call, ev_kcall, ev_bi, ev_comp, ev_meth, evs_nil, evs_cons, evo_nil, evo_cons, evc_nil, evc_cons, evi_of, evi_rng, evi_enm, evi_zip, evi_rvs, exs_nil, exs_cons, ex_expr, ex_set, ex_unp, ex_par, ex_put, ex_ite, ex_whl, ex_fr, ex_rt, stores_nil, stores_var, opd_tmp, opd_at, val_tmp, val_atE, valD_def, see_fz, see_at, keep_fz, keep_at, give_fz, give_at, slotAt_def, varK_fz, varK_lst, idxK_fz, idxK_at, nodeK_fz, nodeK_lst, kidK_fz, kidK_lst, seeAll_nil, seeAll_cons, keepAll_nil, keepAll_cons, giveAll_nil, giveAll_cons, leave_tmp, leave_at, isLst_at, isAt_at, putAt_at, tgs_var, forL_nil, forL_cons, calling_none, calling_some, lend_noneE, lend_zero, lend_succ, lentK_fz, lentK_at, putBack_at, wpS, wpSet, wpOpt, wpIte, wpLeave, test_def, boolK_t, boolK_f, kid0, kid1, kid2, frz_fz, shal_fz, frz_nil, shal_nil, frz_ints, shal_ints, varK_dk, nodeK_dk, getAt_nil, getAt_dk0, setAt_nil, setAt_dk0, putD_dk2, negK_int, notK_bool, cmp_eqI, cmp_neI, cmp_ltI, cmp_leI, cmp_gtI, cmp_geI, cmp_neN, tru_bool, add_int, sub_int, bi_intI, bi_intB, bi_absI, rngK_2, limE, wpBoolK, behind_rt0, behind_rtN, if_true, if_false, Bool.false_eq_true, Bool.not_true, Bool.not_false, Bool.true_eq_false, List.isEmpty_nil, List.isEmpty_cons, decide_true, decide_false, List.isEmpty, Nat.zero_le, decide_eq_true_eq, List.getElem?_cons_zero, List.getElem?_cons_succ, List.set_cons_zero, List.set_cons_succ, List.length_cons, List.length_nil, List.map_cons, List.map_nil, List.cons_append, List.nil_append, List.replicate, Nat.reduceAdd, Nat.reduceSub, Nat.reduceLT, Nat.reduceLeDiff, true_and, and_true, varK_fzs, frz_fzsE, isE_nil, seqD_list, valD_def]
          refine inner _ fun c d => ?_
          simp only [bind_bnd, wp_bnd, wp_ret, wp_bad, ev_var, ev_lit, ev_bin, ev_neg, ev_cmp, ev_and, ev_or, ev_not, ev_ite, ev_tup, ev_lst, ev_idx, ev_slc, ev_call, ev_kcall, ev_bi, ev_comp, ev_meth, evs_nil, evs_cons, evo_nil, evo_cons, evc_nil, evc_cons, evi_of, evi_rng, evi_enm, evi_zip, evi_rvs, exs_nil, exs_cons, ex_expr, ex_set, ex_unp, ex_par, ex_put, ex_ite, ex_whl, ex_fr, ex_rt, stores_nil, stores_var, opd_tmp, opd_at, val_tmp, val_atE, valD_def, see_fz, see_at, keep_fz, keep_at, give_fz, give_at, slotAt_def, varK_fz, varK_lst, idxK_fz, idxK_at, nodeK_fz, nodeK_lst, kidK_fz, kidK_lst, seeAll_nil, seeAll_cons, keepAll_nil, keepAll_cons, giveAll_nil, giveAll_cons, leave_tmp, leave_at, isLst_at, isAt_at, putAt_at, tgs_var, forL_nil, forL_cons, calling_none, calling_some, lend_noneE, lend_zero, lend_succ, lentK_fz, lentK_at, putBack_at, wpS, wpSet, wpOpt, wpIte, wpLeave, test_def, boolK_t, boolK_f, kid0, kid1, kid2, frz_fz, shal_fz, frz_nil, shal_nil, frz_ints, shal_ints, varK_dk, nodeK_dk, getAt_nil, getAt_dk0, setAt_nil, setAt_dk0, putD_dk2, negK_int, notK_bool, cmp_eqI, cmp_neI, cmp_ltI, cmp_leI, cmp_gtI, cmp_geI, cmp_neN, tru_bool, add_int, sub_int, bi_intI, bi_intB, bi_absI, rngK_2, limE, wpBoolK, behind_rt0, behind_rtN, if_true, if_false, Bool.false_eq_true, Bool.not_true, Bool.not_false, Bool.true_eq_false, List.isEmpty_nil, List.isEmpty_cons, decide_true, decide_false, List.isEmpty, Nat.zero_le, decide_eq_true_eq, List.getElem?_cons_zero, List.getElem?_cons_succ, List.set_cons_zero, List.set_cons_succ, List.length_cons, List.length_nil, List.map_cons, List.map_nil, List.cons_append, List.nil_append, List.replicate, Nat.reduceAdd, Nat.reduceSub, Nat.reduceLT, Nat.reduceLeDiff, true_and, and_true, varK_ints, isLst_at, getAt_ints, app_ints (cs := cols i ws) (by rw [cols_len]; omega)]
          exact ⟨i + 1, _, _, _, _, _, lt, .inr rfl, rfl, by rw [s3]⟩
        · simp only [bind_bnd, wp_bnd, wp_ret, wp_bad, ev_var, ev_lit, ev_bin, ev_neg, ev_cmp, ev_and, ev_or, ev_not, ev_ite, ev_tup, ev_lst, ev_idx, ev_slc, ev_call, ev_kcall, ev_bi, ev_comp, ev_meth, evs_nil, evs_cons, evo_nil, evo_cons, evc_nil, evc_cons, evi_of, evi_rng, evi_enm, evi_zip, evi_rvs, exs_nil, exs_cons, ex_expr, ex_set, ex_unp, ex_par, ex_put, ex_ite, ex_whl, ex_fr, ex_rt, stores_nil, stores_var, opd_tmp, opd_at, val_tmp, val_atE, valD_def, see_fz, see_at, keep_fz, keep_at, give_fz, give_at, slotAt_def, varK_fz, varK_lst, idxK_fz, idxK_at, nodeK_fz, nodeK_lst, kidK_fz, kidK_lst, seeAll_nil, seeAll_cons, keepAll_nil, keepAll_cons, giveAll_nil, giveAll_cons, leave_tmp, leave_at, isLst_at, isAt_at, putAt_at, tgs_var, forL_nil, forL_cons, calling_none, calling_some, lend_noneE, lend_zero, lend_succ, lentK_fz, lentK_at, putBack_at, wpS, wpSet, wpOpt, wpIte, wpLeave, test_def, boolK_t, boolK_f, kid0, kid1, kid2, frz_fz, shal_fz, frz_nil, shal_nil, frz_ints, shal_ints, varK_dk, nodeK_dk, getAt_nil, getAt_dk0, setAt_nil, setAt_dk0, putD_dk2, negK_int, notK_bool, cmp_eqI, cmp_neI, cmp_ltI, cmp_leI, cmp_gtI, cmp_geI, cmp_neN, tru_bool, add_int, sub_int, bi_intI, bi_intB, bi_absI, rngK_2, limE, wpBoolK, behind_rt0, behind_rtN, if_true, if_false, Bool.false_eq_true, Bool.not_true, Bool.not_false, Bool.true_eq_false, List.isEmpty_nil, List.isEmpty_cons, decide_true, decide_false, List.isEmpty, Nat.zero_le, decide_eq_true_eq, List.getElem?_cons_zero, List.getElem?_cons_succ, List.set_cons_zero, List.set_cons_succ, List.length_cons, List.length_nil, List.map_cons, List.map_nil, List.cons_append, List.nil_append, List.replicate, Nat.reduceAdd, Nat.reduceSub, Nat.reduceLT, Nat.reduceLeDiff, true_and, and_true, seqD_list, valD_def]
          refine inner _ fun c d => ?_
          simp only [bind_bnd, wp_bnd, wp_ret, wp_bad, ev_var, ev_lit, ev_bin, ev_neg, ev_cmp, ev_and, ev_or, ev_not, ev_ite, ev_tup, ev_lst, ev_idx, ev_slc, ev_call, ev_kcall, ev_bi, ev_comp, ev_meth, evs_nil, evs_cons, evo_nil, evo_cons, evc_nil, evc_cons, evi_of, evi_rng, evi_enm, evi_zip, evi_rvs, exs_nil, exs_cons, ex_expr, ex_set, ex_unp, ex_par, ex_put, ex_ite, ex_whl, ex_fr, ex_rt, stores_nil, stores_var, opd_tmp, opd_at, val_tmp, val_atE, valD_def, see_fz, see_at, keep_fz, keep_at, give_fz, give_at, slotAt_def, varK_fz, varK_lst, idxK_fz, idxK_at, nodeK_fz, nodeK_lst, kidK_fz, kidK_lst, seeAll_nil, seeAll_cons, keepAll_nil, keepAll_cons, giveAll_nil, giveAll_cons, leave_tmp, leave_at, isLst_at, isAt_at, putAt_at, tgs_var, forL_nil, forL_cons, calling_none, calling_some, lend_noneE, lend_zero, lend_succ, lentK_fz, lentK_at, putBack_at, wpS, wpSet, wpOpt, wpIte, wpLeave, test_def, boolK_t, boolK_f, kid0, kid1, kid2, frz_fz, shal_fz, frz_nil, shal_nil, frz_ints, shal_ints, varK_dk, nodeK_dk, getAt_nil, getAt_dk0, setAt_nil, setAt_dk0, putD_dk2, negK_int, notK_bool, cmp_eqI, cmp_neI, cmp_ltI, cmp_leI, cmp_gtI, cmp_geI, cmp_neN, tru_bool, add_int, sub_int, bi_intI, bi_intB, bi_absI, rngK_2, limE, wpBoolK, behind_rt0, behind_rtN, if_true, if_false, Bool.false_eq_true, Bool.not_true, Bool.not_false, Bool.true_eq_false, List.isEmpty_nil, List.isEmpty_cons, decide_true, decide_false, List.isEmpty, Nat.zero_le, decide_eq_true_eq, List.getElem?_cons_zero, List.getElem?_cons_succ, List.set_cons_zero, List.set_cons_succ, List.length_cons, List.length_nil, List.map_cons, List.map_nil, List.cons_append, List.nil_append, List.replicate, Nat.reduceAdd, Nat.reduceSub, Nat.reduceLT, Nat.reduceLeDiff, true_and, and_true, varK_ints, isLst_at, getAt_ints, app_ints (cs := cols i ws) (by rw [cols_len]; omega)]
          exact ⟨i + 1, _, _, _, _, _, lt, .inr rfl, rfl, by rw [s3]⟩
      · rw [List.drop_of_length_le (by simp; omega)] at hrest
        cases hrest
    · obtain ⟨i, r, a, b, c, d, hi, hrr, hrest, rfl⟩ := h
      have ei : i = w := by
        have := congrArg List.length hrest
        simp [intsL] at this
        omega
      subst ei
      simp only [bind_bnd, wp_bnd, wp_ret, wp_bad, ev_var, ev_lit, ev_bin, ev_neg, ev_cmp, ev_and, ev_or, ev_not, ev_ite, ev_tup, ev_lst, ev_idx, ev_slc, ev_call, ev_kcall, ev_bi, ev_comp, ev_meth, evs_nil, evs_cons, evo_nil, evo_cons, evc_nil, evc_cons, evi_of, evi_rng, evi_enm, evi_zip, evi_rvs, exs_nil, exs_cons, ex_expr, ex_set, ex_unp, ex_par, ex_put, ex_ite, ex_whl, ex_fr, ex_rt, stores_nil, stores_var, opd_tmp, opd_at, val_tmp, val_atE, valD_def, see_fz, see_at, keep_fz, keep_at, give_fz, give_at, slotAt_def, varK_fz, varK_lst, idxK_fz, idxK_at, nodeK_fz, nodeK_lst, kidK_fz, kidK_lst, seeAll_nil, seeAll_cons, keepAll_nil, keepAll_cons, giveAll_nil, giveAll_cons, leave_tmp, leave_at, isLst_at, isAt_at, putAt_at, tgs_var, forL_nil, forL_cons, calling_none, calling_some, lend_noneE, lend_zero, lend_succ, lentK_fz, lentK_at, putBack_at, wpS, wpSet, wpOpt, wpIte, wpLeave, test_def, boolK_t, boolK_f, kid0, kid1, kid2, frz_fz, shal_fz, frz_nil, shal_nil, frz_ints, shal_ints, varK_dk, nodeK_dk, getAt_nil, getAt_dk0, setAt_nil, setAt_dk0, putD_dk2, negK_int, notK_bool, cmp_eqI, cmp_neI, cmp_ltI, cmp_leI, cmp_gtI, cmp_geI, cmp_neN, tru_bool, add_int, sub_int, bi_intI, bi_intB, bi_absI, rngK_2, limE, wpBoolK, behind_rt0, behind_rtN, if_true, if_false, Bool.false_eq_true, Bool.not_true, Bool.not_false, Bool.true_eq_false, List.isEmpty_nil, List.isEmpty_cons, decide_true, decide_false, List.isEmpty, Nat.zero_le, decide_eq_true_eq, List.getElem?_cons_zero, List.getElem?_cons_succ, List.set_cons_zero, List.set_cons_succ, List.length_cons, List.length_nil, List.map_cons, List.map_nil, List.cons_append, List.nil_append, List.replicate, Nat.reduceAdd, Nat.reduceSub, Nat.reduceLT, Nat.reduceLeDiff, true_and, and_true, varK_ints]
end HW
end

section
set_option linter.all false
set_option maxHeartbeats 4000000
set_option maxRecDepth 4000
/-! # Plain: shared levels; picks, words, states -/
namespace HW
open PySem PyProof.Rows PySem.W
/-- the first place where the lists differ -/
def shr : List Int → List Int → Nat
  | x :: xs, y :: ys => if y = x then shr xs ys + 1 else 0
  | _, _ => 0
theorem shr_app (pre a b : List Int) (ha : a.length ≤ b.length) : shr (pre ++ a) (pre ++ b) = pre.length + shr a b := by
  induction pre with
  | nil => simp
  | cons p pre ih =>
    show (if p = p then shr (pre ++ a) (pre ++ b) + 1 else 0) = _
    rw [if_pos rfl, ih, List.length_cons]; omega
theorem law_shared_ok {G : Nat → Option Fn} (hG : G i_law_shared = some f_law_shared) (a b : List Int) (hab : a.length ≤ b.length) (hl : a.length ≤ 1000) {n : Nat} (hn : 1 ≤ n) :
    callN G n i_law_shared [.fz (.list (intsL a)), .fz (.list (intsL b))] = .ok (.fz (.int (shr a b : Nat))) none := by
  obtain ⟨n, rfl⟩ : ∃ m, n = m + 1 := ⟨n - 1, by omega⟩
  refine call_wp hG rfl ?_
  have e11 : ∀ ps : List Opd, biArgs .len ps = seeAll ps := fun ps => biArgs_see rfl
  simp only [f_law_shared, bind_bnd, wp_bnd, wp_ret, wp_bad, ev_var, ev_lit, ev_bin, ev_neg, ev_cmp, ev_and, ev_or, ev_not, ev_ite, ev_tup, ev_lst, ev_idx, ev_slc, ev_call, ev_kcall, ev_bi, ev_comp, ev_meth, evs_nil, evs_cons, evo_nil, evo_cons, evc_nil, evc_cons, evi_of, evi_rng, evi_enm, evi_zip, evi_rvs, exs_nil, exs_cons, ex_expr, ex_set, ex_unp, ex_par, ex_put, ex_ite, ex_whl, ex_fr, ex_rt, stores_nil, stores_var, opd_tmp, opd_at, val_tmp, val_atE, valD_def, see_fz, see_at, keep_fz, keep_at, give_fz, give_at, slotAt_def, varK_fz, varK_lst, idxK_fz, idxK_at, nodeK_fz, nodeK_lst, kidK_fz, kidK_lst, seeAll_nil, seeAll_cons, keepAll_nil, keepAll_cons, giveAll_nil, giveAll_cons, leave_tmp, leave_at, isLst_at, isAt_at, putAt_at, tgs_var, forL_nil, forL_cons, calling_none, calling_some, lend_noneE, lend_zero, lend_succ, lentK_fz, lentK_at, putBack_at, wpS, wpSet, wpOpt, wpIte, wpLeave, test_def, boolK_t, boolK_f, kid0, kid1, kid2, frz_fz, shal_fz, frz_nil, shal_nil, frz_ints, shal_ints, varK_dk, nodeK_dk, getAt_nil, getAt_dk0, setAt_nil, setAt_dk0, putD_dk2, negK_int, notK_bool, cmp_eqI, cmp_neI, cmp_ltI, cmp_leI, cmp_gtI, cmp_geI, cmp_neN, tru_bool, add_int, sub_int, bi_intI, bi_intB, bi_absI, rngK_2, limE, wpBoolK, behind_rt0, behind_rtN, if_true, if_false, Bool.false_eq_true, Bool.not_true, Bool.not_false, Bool.true_eq_false, List.isEmpty_nil, List.isEmpty_cons, decide_true, decide_false, List.isEmpty, Nat.zero_le, decide_eq_true_eq, List.getElem?_cons_zero, List.getElem?_cons_succ, List.set_cons_zero, List.set_cons_succ, List.length_cons, List.length_nil, List.map_cons, List.map_nil, List.cons_append, List.nil_append, List.replicate, Nat.reduceAdd, Nat.reduceSub, Nat.reduceLT, Nat.reduceLeDiff, true_and, and_true, valD_def, seqD_list]
  refine for_inv (fun rest e => ∃ pre post post2 c d, a = pre ++ post ∧ b = pre ++ post2 ∧ rest = enumL pre.length (intsL post) ∧ e = [some (.fz (.list (intsL a))), some (.fz (.list (intsL b))), c, d]) (fun d ds e h => ?_) (fun e h => ?_) _ _ ⟨[], a, b, none, none, rfl, rfl, rfl, rfl⟩
  · obtain ⟨pre, post, post2, c, d', h1, h2, h3, rfl⟩ := h
    cases post with
    | nil => cases h3
    | cons x post =>
      injection h3 with h4 h5
      subst h4 h5
      cases post2 with
      | nil => exfalso; rw [h1, h2] at hab; simp at hab; omega
      | cons y post2 =>
        have hi : idxD (.list (intsL b)) (.int (pre.length : Int)) = some (.int y) := idx_ints (by rw [h2]; simp)
        by_cases z : y = x
        · subst z
          simp only [bind_bnd, wp_bnd, wp_ret, wp_bad, ev_var, ev_lit, ev_bin, ev_neg, ev_cmp, ev_and, ev_or, ev_not, ev_ite, ev_tup, ev_lst, ev_idx, ev_slc, ev_call, ev_kcall, ev_bi, ev_comp, ev_meth, evs_nil, evs_cons, evo_nil, evo_cons, evc_nil, evc_cons, evi_of, evi_rng, evi_enm, evi_zip, evi_rvs, exs_nil, exs_cons, ex_expr, ex_set, ex_unp, ex_par, ex_put, ex_ite, ex_whl, ex_fr, ex_rt, stores_nil, stores_var, opd_tmp, opd_at, val_tmp, val_atE, valD_def, see_fz, see_at, keep_fz, keep_at, give_fz, give_at, slotAt_def, varK_fz, varK_lst, idxK_fz, idxK_at, nodeK_fz, nodeK_lst, kidK_fz, kidK_lst, seeAll_nil, seeAll_cons, keepAll_nil, keepAll_cons, giveAll_nil, giveAll_cons, leave_tmp, leave_at, isLst_at, isAt_at, putAt_at, tgs_var, forL_nil, forL_cons, calling_none, calling_some, lend_noneE, lend_zero, lend_succ, lentK_fz, lentK_at, putBack_at, wpS, wpSet, wpOpt, wpIte, wpLeave, test_def, boolK_t, boolK_f, kid0, kid1, kid2, frz_fz, shal_fz, frz_nil, shal_nil, frz_ints, shal_ints, varK_dk, nodeK_dk, getAt_nil, getAt_dk0, setAt_nil, setAt_dk0, putD_dk2, negK_int, notK_bool, cmp_eqI, cmp_neI, cmp_ltI, cmp_leI, cmp_gtI, cmp_geI, cmp_neN, tru_bool, add_int, sub_int, bi_intI, bi_intB, bi_absI, rngK_2, limE, wpBoolK, behind_rt0, behind_rtN, if_true, if_false, Bool.false_eq_true, Bool.not_true, Bool.not_false, Bool.true_eq_false, List.isEmpty_nil, List.isEmpty_cons, decide_true, decide_false, List.isEmpty, Nat.zero_le, decide_eq_true_eq, List.getElem?_cons_zero, List.getElem?_cons_succ, List.set_cons_zero, List.set_cons_succ, List.length_cons, List.length_nil, List.map_cons, List.map_nil, List.cons_append, List.nil_append, List.replicate, Nat.reduceAdd, Nat.reduceSub, Nat.reduceLT, Nat.reduceLeDiff, true_and, and_true, tgs_two, hi]
          exact ⟨pre ++ [y], post, post2, _, _, by rw [h1]; simp, by rw [h2]; simp, by rw [List.length_append]; rfl, rfl⟩
        · have hs : shr a b = pre.length := by
            rw [h1, h2, shr_app _ _ _ (by rw [h1, h2] at hab; simpa using hab)]
            show pre.length + (if y = x then _ else 0) = _
            rw [if_neg z]; rfl
          rw [hs]
          simp only [bind_bnd, wp_bnd, wp_ret, wp_bad, ev_var, ev_lit, ev_bin, ev_neg, ev_cmp, ev_and, ev_or, ev_not, ev_ite, ev_tup, ev_lst, ev_idx, ev_slc, ev_call, ev_kcall, ev_bi, ev_comp, ev_meth, evs_nil, evs_cons, evo_nil, evo_cons, evc_nil, evc_cons, evi_of, evi_rng, evi_enm, evi_zip, evi_rvs, exs_nil, exs_cons, ex_expr, ex_set, ex_unp, ex_par, ex_put, ex_ite, ex_whl, ex_fr, ex_rt, stores_nil, stores_var, opd_tmp, opd_at, val_tmp, val_atE, valD_def, see_fz, see_at, keep_fz, keep_at, give_fz, give_at, slotAt_def, varK_fz, varK_lst, idxK_fz, idxK_at, nodeK_fz, nodeK_lst, kidK_fz, kidK_lst, seeAll_nil, seeAll_cons, keepAll_nil, keepAll_cons, giveAll_nil, giveAll_cons, leave_tmp, leave_at, isLst_at, isAt_at, putAt_at, tgs_var, forL_nil, forL_cons, calling_none, calling_some, lend_noneE, lend_zero, lend_succ, lentK_fz, lentK_at, putBack_at, wpS, wpSet, wpOpt, wpIte, wpLeave, test_def, boolK_t, boolK_f, kid0, kid1, kid2, frz_fz, shal_fz, frz_nil, shal_nil, frz_ints, shal_ints, varK_dk, nodeK_dk, getAt_nil, getAt_dk0, setAt_nil, setAt_dk0, putD_dk2, negK_int, notK_bool, cmp_eqI, cmp_neI, cmp_ltI, cmp_leI, cmp_gtI, cmp_geI, cmp_neN, tru_bool, add_int, sub_int, bi_intI, bi_intB, bi_absI, rngK_2, limE, wpBoolK, behind_rt0, behind_rtN, if_true, if_false, Bool.false_eq_true, Bool.not_true, Bool.not_false, Bool.true_eq_false, List.isEmpty_nil, List.isEmpty_cons, decide_true, decide_false, List.isEmpty, Nat.zero_le, decide_eq_true_eq, List.getElem?_cons_zero, List.getElem?_cons_succ, List.set_cons_zero, List.set_cons_succ, List.length_cons, List.length_nil, List.map_cons, List.map_nil, List.cons_append, List.nil_append, List.replicate, Nat.reduceAdd, Nat.reduceSub, Nat.reduceLT, Nat.reduceLeDiff, true_and, and_true, tgs_two, hi, z]
  · obtain ⟨pre, post, post2, c, d', h1, h2, h3, rfl⟩ := h
    cases post with
    | nil =>
      have hs : shr a b = a.length := by
        rw [List.append_nil] at h1
        rw [h1, h2]
        have := shr_app pre [] post2 (by simp)
        rw [List.append_nil] at this
        rw [this]; simp [shr]
      rw [hs]
      simp only [bind_bnd, wp_bnd, wp_ret, wp_bad, ev_var, ev_lit, ev_bin, ev_neg, ev_cmp, ev_and, ev_or, ev_not, ev_ite, ev_tup, ev_lst, ev_idx, ev_slc, ev_call, ev_kcall, ev_bi, ev_comp, ev_meth, evs_nil, evs_cons, evo_nil, evo_cons, evc_nil, evc_cons, evi_of, evi_rng, evi_enm, evi_zip, evi_rvs, exs_nil, exs_cons, ex_expr, ex_set, ex_unp, ex_par, ex_put, ex_ite, ex_whl, ex_fr, ex_rt, stores_nil, stores_var, opd_tmp, opd_at, val_tmp, val_atE, valD_def, see_fz, see_at, keep_fz, keep_at, give_fz, give_at, slotAt_def, varK_fz, varK_lst, idxK_fz, idxK_at, nodeK_fz, nodeK_lst, kidK_fz, kidK_lst, seeAll_nil, seeAll_cons, keepAll_nil, keepAll_cons, giveAll_nil, giveAll_cons, leave_tmp, leave_at, isLst_at, isAt_at, putAt_at, tgs_var, forL_nil, forL_cons, calling_none, calling_some, lend_noneE, lend_zero, lend_succ, lentK_fz, lentK_at, putBack_at, wpS, wpSet, wpOpt, wpIte, wpLeave, test_def, boolK_t, boolK_f, kid0, kid1, kid2, frz_fz, shal_fz, frz_nil, shal_nil, frz_ints, shal_ints, varK_dk, nodeK_dk, getAt_nil, getAt_dk0, setAt_nil, setAt_dk0, putD_dk2, negK_int, notK_bool, cmp_eqI, cmp_neI, cmp_ltI, cmp_leI, cmp_gtI, cmp_geI, cmp_neN, tru_bool, add_int, sub_int, bi_intI, bi_intB, bi_absI, rngK_2, limE, wpBoolK, behind_rt0, behind_rtN, if_true, if_false, Bool.false_eq_true, Bool.not_true, Bool.not_false, Bool.true_eq_false, List.isEmpty_nil, List.isEmpty_cons, decide_true, decide_false, List.isEmpty, Nat.zero_le, decide_eq_true_eq, List.getElem?_cons_zero, List.getElem?_cons_succ, List.set_cons_zero, List.set_cons_succ, List.length_cons, List.length_nil, List.map_cons, List.map_nil, List.cons_append, List.nil_append, List.replicate, Nat.reduceAdd, Nat.reduceSub, Nat.reduceLT, Nat.reduceLeDiff, true_and, and_true, e11, bi_lenL, len_ints]
    | cons x post => cases h3
end HW
end

section
set_option linter.all false
set_option maxHeartbeats 4000000
set_option maxRecDepth 4000
/-! # Plain: picks -/
namespace HW
open PySem PyProof.Rows PySem.W
theorem muS {G : Nat → Option Fn} {i k : Nat} {np ns : Nat} {body : List S} (h : G i = some ⟨some k, np, ns, body⟩) : ((G i).bind fun x => x.mu) = some k := by rw [h]; rfl
theorem getElem0 {p : Opd} {ps : List Opd} : (p :: ps)[0]? = some p := rfl
theorem pick_ok {G : Nat → Option Fn} (h0 : G i_law_draw = some f_law_draw) (hG : G i_law_pick = some f_law_pick) {cs : List Int} {m t : Int} (hl : cs.length ≤ 63) (row : List Int) (hr : 0 < row.length) (hr2 : row.length ≤ 1000) {n : Nat} (hn : 2 ≤ n) :
    ∃ x cs' m' t', callN G n i_law_pick [dk cs m t, .fz (.list (intsL row))] = .ok (.fz (.int x)) (some (dk cs' m' t')) ∧ x ∈ row ∧ cs'.length ≤ 63 := by
  obtain ⟨n, rfl⟩ : ∃ m, n = m + 2 := ⟨n - 2, by omega⟩
  have lg : ((row.length : Int)).natAbs.log2 < 9000 := by
    have h1 : ((row.length : Int)).natAbs = row.length := Int.natAbs_natCast _
    rw [h1]
    have h2 := Nat.log2_self_le (n := row.length) (by omega)
    rcases Nat.lt_or_ge row.length.log2 9000 with z | z
    · exact z
    · exfalso
      have h3 : 2 ^ 10 ≤ 2 ^ row.length.log2 := Nat.pow_le_pow_right (by decide) (by omega)
      have h4 : (2 : Nat) ^ 10 = 1024 := by decide
      omega
  obtain ⟨r, cs', m', t', hd, r0, r1, hc⟩ := draw h0 (m := m) (t := t) (many := (row.length : Int)) (by omega) lg hl n
  obtain ⟨j, rfl⟩ : ∃ j : Nat, r = j := ⟨r.toNat, by omega⟩
  have hj : j < row.length := by omega
  refine ⟨row[j], cs', m', t', ?_, List.getElem_mem hj, hc⟩
  refine call_wp hG rfl ?_
  have m0 := muS h0
  have e11 : ∀ ps : List Opd, biArgs .len ps = seeAll ps := fun ps => biArgs_see rfl
  have hi : idxD (.list (intsL row)) (.int (j : Int)) = some (.int row[j]) := idx_ints (List.getElem?_eq_getElem hj)
  clear r0 r1
  generalize hL : ((row.length : Nat) : Int) = Lr at hd
  generalize ((j : Nat) : Int) = J at hd hi
  simp only [f_law_pick, bind_bnd, wp_bnd, wp_ret, wp_bad, ev_var, ev_lit, ev_bin, ev_neg, ev_cmp, ev_and, ev_or, ev_not, ev_ite, ev_tup, ev_lst, ev_idx, ev_slc, ev_call, ev_kcall, ev_bi, ev_comp, ev_meth, evs_nil, evs_cons, evo_nil, evo_cons, evc_nil, evc_cons, evi_of, evi_rng, evi_enm, evi_zip, evi_rvs, exs_nil, exs_cons, ex_expr, ex_set, ex_unp, ex_par, ex_put, ex_ite, ex_whl, ex_fr, ex_rt, stores_nil, stores_var, opd_tmp, opd_at, val_tmp, val_atE, valD_def, see_fz, see_at, keep_fz, keep_at, give_fz, give_at, slotAt_def, varK_fz, varK_lst, idxK_fz, idxK_at, nodeK_fz, nodeK_lst, kidK_fz, kidK_lst, seeAll_nil, seeAll_cons, keepAll_nil, keepAll_cons, giveAll_nil, giveAll_cons, leave_tmp, leave_at, isLst_at, isAt_at, putAt_at, tgs_var, forL_nil, forL_cons, calling_none, calling_some, lend_noneE, lend_zero, lend_succ, lentK_fz, lentK_at, putBack_at, wpS, wpSet, wpOpt, wpIte, wpLeave, test_def, boolK_t, boolK_f, kid0, kid1, kid2, frz_fz, shal_fz, frz_nil, shal_nil, frz_ints, shal_ints, varK_dk, nodeK_dk, getAt_nil, getAt_dk0, setAt_nil, setAt_dk0, putD_dk2, negK_int, notK_bool, cmp_eqI, cmp_neI, cmp_ltI, cmp_leI, cmp_gtI, cmp_geI, cmp_neN, tru_bool, add_int, sub_int, bi_intI, bi_intB, bi_absI, rngK_2, limE, wpBoolK, behind_rt0, behind_rtN, if_true, if_false, Bool.false_eq_true, Bool.not_true, Bool.not_false, Bool.true_eq_false, List.isEmpty_nil, List.isEmpty_cons, decide_true, decide_false, List.isEmpty, Nat.zero_le, decide_eq_true_eq, List.getElem?_cons_zero, List.getElem?_cons_succ, List.set_cons_zero, List.set_cons_succ, List.length_cons, List.length_nil, List.map_cons, List.map_nil, List.cons_append, List.nil_append, List.replicate, Nat.reduceAdd, Nat.reduceSub, Nat.reduceLT, Nat.reduceLeDiff, true_and, and_true, m0, calling_some, lend_zero, lentK_at, e11, bi_lenL, len_ints, hL, hd, getElem0, putBack_at, hi]
end HW
end

section
set_option linter.all false
set_option maxHeartbeats 4000000
set_option maxRecDepth 4000
/-! # Plain: words, states -/
namespace HW
open PySem PyProof.Rows PySem.W
theorem frz_4 {a b c d : PyData} : frz (.lst [.fz a, .fz b, .fz c, .fz d]) = some (.list [a, b, c, d]) := rfl
theorem log_small {w : Nat} (h0 : 0 < w) (h : w ≤ 1000) : ((w : Int)).natAbs.log2 < 9000 := by
  have h1 : ((w : Int)).natAbs = w := Int.natAbs_natCast _
  rw [h1]
  have h2 := Nat.log2_self_le (n := w) (by omega)
  rcases Nat.lt_or_ge w.log2 9000 with z | z
  · exact z
  · exfalso
    have h3 : 2 ^ 10 ≤ 2 ^ w.log2 := Nat.pow_le_pow_right (by decide) (by omega)
    have h4 : (2 : Nat) ^ 10 = 1024 := by decide
    omega
theorem pow_lt_pow {a b : Nat} (h : a < b) : (2 : Int) ^ a < 2 ^ b := by
  have h1 : (2 : Nat) ^ a < 2 ^ b := Nat.pow_lt_pow_right (by decide) h
  have h2 := kbt_cast a
  have h3 := kbt_cast b
  omega
theorem word_ok {G : Nat → Option Fn} (h0 : G i_law_draw = some f_law_draw) (hG : G i_law_word = some f_law_word) {cs : List Int} {m t : Int} (hl : cs.length ≤ 63) (w : Nat) {W : Int} (hW : W = w) (hw0 : 0 < w) (hw : w ≤ 1000) {n : Nat} (hn : 2 ≤ n) :
    ∃ x cs' m' t', callN G n i_law_word [dk cs m t, .fz (.int W)] = .ok (.fz (.int x)) (some (dk cs' m' t')) ∧ 0 ≤ x ∧ x < 2 ^ w ∧ cs'.length ≤ 63 := by
  obtain ⟨n, rfl⟩ : ∃ m, n = m + 2 := ⟨n - 2, by omega⟩
  have hp : (0 : Int) < 2 ^ w := kbt_pos w
  have m0 := muS h0
  obtain ⟨r, c1, m1, t1, hd, r0, r1, hc⟩ := draw h0 (cs := cs) (m := m) (t := t) (many := 9) (by decide) (by decide) hl n
  have hs : ∀ w : Nat, w ≤ 1000 → binD .shl (.int 1) (.int (w : Int)) = some (.fz (.int (2 ^ w))) := fun w h => by rw [shl_int (by decide) (by omega), Int.one_mul]
  have s1 : binD .shl (.int 1) (.int W) = some (.fz (.int (2 ^ w))) := by rw [hW]; exact hs w hw
  have s2 : binD .shl (.int 1) (.int (W - 1)) = some (.fz (.int (2 ^ (w - 1)))) := by
    rw [hW, show ((w : Int) - 1) = ((w - 1 : Nat) : Int) by omega]; exact hs _ (by omega)
  have s3 : ∀ y : Int, binD .mod (.int y) (.int (2 ^ w)) = some (.fz (.int (y % 2 ^ w))) := fun y => mod_int hp
  have fin : ∀ y : Int, 0 ≤ y % 2 ^ w ∧ y % 2 ^ w < 2 ^ w := fun y => ⟨Int.emod_nonneg _ (by omega), Int.emod_lt_of_pos _ hp⟩
  rcases (by omega : r = 0 ∨ r = 1 ∨ r = 2 ∨ r = 3 ∨ r = 4 ∨ 4 < r) with rfl | rfl | rfl | rfl | rfl | r5
  · refine ⟨0 % 2 ^ w, c1, m1, t1, ?_, (fin _).1, (fin _).2, hc⟩
    clear hW
    refine call_wp hG rfl ?_
    have hi : idxD (.list [.int 0, .int 1, .int (2 ^ w - 1), .int (2 ^ (w - 1))]) (.int 0) = some (.int 0) := rfl
    simp only [f_law_word, bind_bnd, wp_bnd, wp_ret, wp_bad, ev_var, ev_lit, ev_bin, ev_neg, ev_cmp, ev_and, ev_or, ev_not, ev_ite, ev_tup, ev_lst, ev_idx, ev_slc, ev_call, ev_kcall, ev_bi, ev_comp, ev_meth, evs_nil, evs_cons, evo_nil, evo_cons, evc_nil, evc_cons, evi_of, evi_rng, evi_enm, evi_zip, evi_rvs, exs_nil, exs_cons, ex_expr, ex_set, ex_unp, ex_par, ex_put, ex_ite, ex_whl, ex_fr, ex_rt, stores_nil, stores_var, opd_tmp, opd_at, val_tmp, val_atE, valD_def, see_fz, see_at, keep_fz, keep_at, give_fz, give_at, slotAt_def, varK_fz, varK_lst, idxK_fz, idxK_at, nodeK_fz, nodeK_lst, kidK_fz, kidK_lst, seeAll_nil, seeAll_cons, keepAll_nil, keepAll_cons, giveAll_nil, giveAll_cons, leave_tmp, leave_at, isLst_at, isAt_at, putAt_at, tgs_var, forL_nil, forL_cons, calling_none, calling_some, lend_noneE, lend_zero, lend_succ, lentK_fz, lentK_at, putBack_at, wpS, wpSet, wpOpt, wpIte, wpLeave, test_def, boolK_t, boolK_f, kid0, kid1, kid2, frz_fz, shal_fz, frz_nil, shal_nil, frz_ints, shal_ints, varK_dk, nodeK_dk, getAt_nil, getAt_dk0, setAt_nil, setAt_dk0, putD_dk2, negK_int, notK_bool, cmp_eqI, cmp_neI, cmp_ltI, cmp_leI, cmp_gtI, cmp_geI, cmp_neN, tru_bool, add_int, sub_int, bi_intI, bi_intB, bi_absI, rngK_2, limE, wpBoolK, behind_rt0, behind_rtN, if_true, if_false, Bool.false_eq_true, Bool.not_true, Bool.not_false, Bool.true_eq_false, List.isEmpty_nil, List.isEmpty_cons, decide_true, decide_false, List.isEmpty, Nat.zero_le, decide_eq_true_eq, List.getElem?_cons_zero, List.getElem?_cons_succ, List.set_cons_zero, List.set_cons_succ, List.length_cons, List.length_nil, List.map_cons, List.map_nil, List.cons_append, List.nil_append, List.replicate, Nat.reduceAdd, Nat.reduceSub, Nat.reduceLT, Nat.reduceLeDiff, true_and, and_true, m0, calling_some, lend_zero, lentK_at, hd, getElem0, putBack_at, s1, s2, frz_4, hi, s3, Int.reduceLT]
  · refine ⟨1 % 2 ^ w, c1, m1, t1, ?_, (fin _).1, (fin _).2, hc⟩
    clear hW
    refine call_wp hG rfl ?_
    have hi : idxD (.list [.int 0, .int 1, .int (2 ^ w - 1), .int (2 ^ (w - 1))]) (.int 1) = some (.int 1) := rfl
    simp only [f_law_word, bind_bnd, wp_bnd, wp_ret, wp_bad, ev_var, ev_lit, ev_bin, ev_neg, ev_cmp, ev_and, ev_or, ev_not, ev_ite, ev_tup, ev_lst, ev_idx, ev_slc, ev_call, ev_kcall, ev_bi, ev_comp, ev_meth, evs_nil, evs_cons, evo_nil, evo_cons, evc_nil, evc_cons, evi_of, evi_rng, evi_enm, evi_zip, evi_rvs, exs_nil, exs_cons, ex_expr, ex_set, ex_unp, ex_par, ex_put, ex_ite, ex_whl, ex_fr, ex_rt, stores_nil, stores_var, opd_tmp, opd_at, val_tmp, val_atE, valD_def, see_fz, see_at, keep_fz, keep_at, give_fz, give_at, slotAt_def, varK_fz, varK_lst, idxK_fz, idxK_at, nodeK_fz, nodeK_lst, kidK_fz, kidK_lst, seeAll_nil, seeAll_cons, keepAll_nil, keepAll_cons, giveAll_nil, giveAll_cons, leave_tmp, leave_at, isLst_at, isAt_at, putAt_at, tgs_var, forL_nil, forL_cons, calling_none, calling_some, lend_noneE, lend_zero, lend_succ, lentK_fz, lentK_at, putBack_at, wpS, wpSet, wpOpt, wpIte, wpLeave, test_def, boolK_t, boolK_f, kid0, kid1, kid2, frz_fz, shal_fz, frz_nil, shal_nil, frz_ints, shal_ints, varK_dk, nodeK_dk, getAt_nil, getAt_dk0, setAt_nil, setAt_dk0, putD_dk2, negK_int, notK_bool, cmp_eqI, cmp_neI, cmp_ltI, cmp_leI, cmp_gtI, cmp_geI, cmp_neN, tru_bool, add_int, sub_int, bi_intI, bi_intB, bi_absI, rngK_2, limE, wpBoolK, behind_rt0, behind_rtN, if_true, if_false, Bool.false_eq_true, Bool.not_true, Bool.not_false, Bool.true_eq_false, List.isEmpty_nil, List.isEmpty_cons, decide_true, decide_false, List.isEmpty, Nat.zero_le, decide_eq_true_eq, List.getElem?_cons_zero, List.getElem?_cons_succ, List.set_cons_zero, List.set_cons_succ, List.length_cons, List.length_nil, List.map_cons, List.map_nil, List.cons_append, List.nil_append, List.replicate, Nat.reduceAdd, Nat.reduceSub, Nat.reduceLT, Nat.reduceLeDiff, true_and, and_true, m0, calling_some, lend_zero, lentK_at, hd, getElem0, putBack_at, s1, s2, frz_4, hi, s3, Int.reduceLT]
  · refine ⟨(2 ^ w - 1) % 2 ^ w, c1, m1, t1, ?_, (fin _).1, (fin _).2, hc⟩
    clear hW
    refine call_wp hG rfl ?_
    have hi : idxD (.list [.int 0, .int 1, .int (2 ^ w - 1), .int (2 ^ (w - 1))]) (.int 2) = some (.int (2 ^ w - 1)) := rfl
    simp only [f_law_word, bind_bnd, wp_bnd, wp_ret, wp_bad, ev_var, ev_lit, ev_bin, ev_neg, ev_cmp, ev_and, ev_or, ev_not, ev_ite, ev_tup, ev_lst, ev_idx, ev_slc, ev_call, ev_kcall, ev_bi, ev_comp, ev_meth, evs_nil, evs_cons, evo_nil, evo_cons, evc_nil, evc_cons, evi_of, evi_rng, evi_enm, evi_zip, evi_rvs, exs_nil, exs_cons, ex_expr, ex_set, ex_unp, ex_par, ex_put, ex_ite, ex_whl, ex_fr, ex_rt, stores_nil, stores_var, opd_tmp, opd_at, val_tmp, val_atE, valD_def, see_fz, see_at, keep_fz, keep_at, give_fz, give_at, slotAt_def, varK_fz, varK_lst, idxK_fz, idxK_at, nodeK_fz, nodeK_lst, kidK_fz, kidK_lst, seeAll_nil, seeAll_cons, keepAll_nil, keepAll_cons, giveAll_nil, giveAll_cons, leave_tmp, leave_at, isLst_at, isAt_at, putAt_at, tgs_var, forL_nil, forL_cons, calling_none, calling_some, lend_noneE, lend_zero, lend_succ, lentK_fz, lentK_at, putBack_at, wpS, wpSet, wpOpt, wpIte, wpLeave, test_def, boolK_t, boolK_f, kid0, kid1, kid2, frz_fz, shal_fz, frz_nil, shal_nil, frz_ints, shal_ints, varK_dk, nodeK_dk, getAt_nil, getAt_dk0, setAt_nil, setAt_dk0, putD_dk2, negK_int, notK_bool, cmp_eqI, cmp_neI, cmp_ltI, cmp_leI, cmp_gtI, cmp_geI, cmp_neN, tru_bool, add_int, sub_int, bi_intI, bi_intB, bi_absI, rngK_2, limE, wpBoolK, behind_rt0, behind_rtN, if_true, if_false, Bool.false_eq_true, Bool.not_true, Bool.not_false, Bool.true_eq_false, List.isEmpty_nil, List.isEmpty_cons, decide_true, decide_false, List.isEmpty, Nat.zero_le, decide_eq_true_eq, List.getElem?_cons_zero, List.getElem?_cons_succ, List.set_cons_zero, List.set_cons_succ, List.length_cons, List.length_nil, List.map_cons, List.map_nil, List.cons_append, List.nil_append, List.replicate, Nat.reduceAdd, Nat.reduceSub, Nat.reduceLT, Nat.reduceLeDiff, true_and, and_true, m0, calling_some, lend_zero, lentK_at, hd, getElem0, putBack_at, s1, s2, frz_4, hi, s3, Int.reduceLT]
  · refine ⟨2 ^ (w - 1) % 2 ^ w, c1, m1, t1, ?_, (fin _).1, (fin _).2, hc⟩
    clear hW
    refine call_wp hG rfl ?_
    have hi : idxD (.list [.int 0, .int 1, .int (2 ^ w - 1), .int (2 ^ (w - 1))]) (.int 3) = some (.int (2 ^ (w - 1))) := rfl
    simp only [f_law_word, bind_bnd, wp_bnd, wp_ret, wp_bad, ev_var, ev_lit, ev_bin, ev_neg, ev_cmp, ev_and, ev_or, ev_not, ev_ite, ev_tup, ev_lst, ev_idx, ev_slc, ev_call, ev_kcall, ev_bi, ev_comp, ev_meth, evs_nil, evs_cons, evo_nil, evo_cons, evc_nil, evc_cons, evi_of, evi_rng, evi_enm, evi_zip, evi_rvs, exs_nil, exs_cons, ex_expr, ex_set, ex_unp, ex_par, ex_put, ex_ite, ex_whl, ex_fr, ex_rt, stores_nil, stores_var, opd_tmp, opd_at, val_tmp, val_atE, valD_def, see_fz, see_at, keep_fz, keep_at, give_fz, give_at, slotAt_def, varK_fz, varK_lst, idxK_fz, idxK_at, nodeK_fz, nodeK_lst, kidK_fz, kidK_lst, seeAll_nil, seeAll_cons, keepAll_nil, keepAll_cons, giveAll_nil, giveAll_cons, leave_tmp, leave_at, isLst_at, isAt_at, putAt_at, tgs_var, forL_nil, forL_cons, calling_none, calling_some, lend_noneE, lend_zero, lend_succ, lentK_fz, lentK_at, putBack_at, wpS, wpSet, wpOpt, wpIte, wpLeave, test_def, boolK_t, boolK_f, kid0, kid1, kid2, frz_fz, shal_fz, frz_nil, shal_nil, frz_ints, shal_ints, varK_dk, nodeK_dk, getAt_nil, getAt_dk0, setAt_nil, setAt_dk0, putD_dk2, negK_int, notK_bool, cmp_eqI, cmp_neI, cmp_ltI, cmp_leI, cmp_gtI, cmp_geI, cmp_neN, tru_bool, add_int, sub_int, bi_intI, bi_intB, bi_absI, rngK_2, limE, wpBoolK, behind_rt0, behind_rtN, if_true, if_false, Bool.false_eq_true, Bool.not_true, Bool.not_false, Bool.true_eq_false, List.isEmpty_nil, List.isEmpty_cons, decide_true, decide_false, List.isEmpty, Nat.zero_le, decide_eq_true_eq, List.getElem?_cons_zero, List.getElem?_cons_succ, List.set_cons_zero, List.set_cons_succ, List.length_cons, List.length_nil, List.map_cons, List.map_nil, List.cons_append, List.nil_append, List.replicate, Nat.reduceAdd, Nat.reduceSub, Nat.reduceLT, Nat.reduceLeDiff, true_and, and_true, m0, calling_some, lend_zero, lentK_at, hd, getElem0, putBack_at, s1, s2, frz_4, hi, s3, Int.reduceLT]
  · obtain ⟨r2, c2, m2, t2, hd2, q0, q1, hc2⟩ := draw h0 (cs := c1) (m := m1) (t := t1) (many := W) (by omega) (by rw [hW]; exact log_small hw0 hw) hc n
    obtain ⟨j, rfl⟩ : ∃ j : Nat, r2 = j := ⟨r2.toNat, by omega⟩
    have hj : j < w := by omega
    have s4 := hs j (by omega)
    refine ⟨2 ^ j, c2, m2, t2, ?_, Int.le_of_lt (kbt_pos j), pow_lt_pow hj, hc2⟩
    clear hW q0 q1
    generalize ((j : Nat) : Int) = J at hd2 s4
    refine call_wp hG rfl ?_
    simp only [f_law_word, bind_bnd, wp_bnd, wp_ret, wp_bad, ev_var, ev_lit, ev_bin, ev_neg, ev_cmp, ev_and, ev_or, ev_not, ev_ite, ev_tup, ev_lst, ev_idx, ev_slc, ev_call, ev_kcall, ev_bi, ev_comp, ev_meth, evs_nil, evs_cons, evo_nil, evo_cons, evc_nil, evc_cons, evi_of, evi_rng, evi_enm, evi_zip, evi_rvs, exs_nil, exs_cons, ex_expr, ex_set, ex_unp, ex_par, ex_put, ex_ite, ex_whl, ex_fr, ex_rt, stores_nil, stores_var, opd_tmp, opd_at, val_tmp, val_atE, valD_def, see_fz, see_at, keep_fz, keep_at, give_fz, give_at, slotAt_def, varK_fz, varK_lst, idxK_fz, idxK_at, nodeK_fz, nodeK_lst, kidK_fz, kidK_lst, seeAll_nil, seeAll_cons, keepAll_nil, keepAll_cons, giveAll_nil, giveAll_cons, leave_tmp, leave_at, isLst_at, isAt_at, putAt_at, tgs_var, forL_nil, forL_cons, calling_none, calling_some, lend_noneE, lend_zero, lend_succ, lentK_fz, lentK_at, putBack_at, wpS, wpSet, wpOpt, wpIte, wpLeave, test_def, boolK_t, boolK_f, kid0, kid1, kid2, frz_fz, shal_fz, frz_nil, shal_nil, frz_ints, shal_ints, varK_dk, nodeK_dk, getAt_nil, getAt_dk0, setAt_nil, setAt_dk0, putD_dk2, negK_int, notK_bool, cmp_eqI, cmp_neI, cmp_ltI, cmp_leI, cmp_gtI, cmp_geI, cmp_neN, tru_bool, add_int, sub_int, bi_intI, bi_intB, bi_absI, rngK_2, limE, wpBoolK, behind_rt0, behind_rtN, if_true, if_false, Bool.false_eq_true, Bool.not_true, Bool.not_false, Bool.true_eq_false, List.isEmpty_nil, List.isEmpty_cons, decide_true, decide_false, List.isEmpty, Nat.zero_le, decide_eq_true_eq, List.getElem?_cons_zero, List.getElem?_cons_succ, List.set_cons_zero, List.set_cons_succ, List.length_cons, List.length_nil, List.map_cons, List.map_nil, List.cons_append, List.nil_append, List.replicate, Nat.reduceAdd, Nat.reduceSub, Nat.reduceLT, Nat.reduceLeDiff, true_and, and_true, m0, calling_some, lend_zero, lentK_at, hd, hd2, getElem0, putBack_at, s4, Int.reduceLT]
  · have e1 : decide (r < 4) = false := decide_eq_false (by omega)
    have e2 : decide (r = 4) = false := decide_eq_false (by omega)
    have e3 : (r < 4) = False := eq_false (by omega)
    have e4 : (r = 4) = False := eq_false (by omega)
    obtain ⟨ds5, r5'⟩ : ∃ ds5, rngK [.int 5] = ret ds5 := ⟨_, rfl⟩
    have s5 : ∀ y : Int, binD .mul (.int y) (.int 65536) = some (.fz (.int (y * 65536))) := fun y => mul_int (mulOk_r (by decide) (by decide))
    clear hW
    have key : wp (exs (fun g => (G g).bind fun x => x.mu) (callN G (n + 1)) f_law_word.body) [some (dk cs m t), some (.fz (.int W)), none, none, none] fun f e' => ∃ x cs' m' t', behind f_law_word (.ok f e') = .ok (.fz (.int x)) (some (dk cs' m' t')) ∧ 0 ≤ x ∧ x < 2 ^ w ∧ cs'.length ≤ 63 := by
      simp only [f_law_word, bind_bnd, wp_bnd, wp_ret, wp_bad, ev_var, ev_lit, ev_bin, ev_neg, ev_cmp, ev_and, ev_or, ev_not, ev_ite, ev_tup, ev_lst, ev_idx, ev_slc, ev_call, ev_kcall, ev_bi, ev_comp, ev_meth, evs_nil, evs_cons, evo_nil, evo_cons, evc_nil, evc_cons, evi_of, evi_rng, evi_enm, evi_zip, evi_rvs, exs_nil, exs_cons, ex_expr, ex_set, ex_unp, ex_par, ex_put, ex_ite, ex_whl, ex_fr, ex_rt, stores_nil, stores_var, opd_tmp, opd_at, val_tmp, val_atE, valD_def, see_fz, see_at, keep_fz, keep_at, give_fz, give_at, slotAt_def, varK_fz, varK_lst, idxK_fz, idxK_at, nodeK_fz, nodeK_lst, kidK_fz, kidK_lst, seeAll_nil, seeAll_cons, keepAll_nil, keepAll_cons, giveAll_nil, giveAll_cons, leave_tmp, leave_at, isLst_at, isAt_at, putAt_at, tgs_var, forL_nil, forL_cons, calling_none, calling_some, lend_noneE, lend_zero, lend_succ, lentK_fz, lentK_at, putBack_at, wpS, wpSet, wpOpt, wpIte, wpLeave, test_def, boolK_t, boolK_f, kid0, kid1, kid2, frz_fz, shal_fz, frz_nil, shal_nil, frz_ints, shal_ints, varK_dk, nodeK_dk, getAt_nil, getAt_dk0, setAt_nil, setAt_dk0, putD_dk2, negK_int, notK_bool, cmp_eqI, cmp_neI, cmp_ltI, cmp_leI, cmp_gtI, cmp_geI, cmp_neN, tru_bool, add_int, sub_int, bi_intI, bi_intB, bi_absI, rngK_2, limE, wpBoolK, behind_rt0, behind_rtN, if_true, if_false, Bool.false_eq_true, Bool.not_true, Bool.not_false, Bool.true_eq_false, List.isEmpty_nil, List.isEmpty_cons, decide_true, decide_false, List.isEmpty, Nat.zero_le, decide_eq_true_eq, List.getElem?_cons_zero, List.getElem?_cons_succ, List.set_cons_zero, List.set_cons_succ, List.length_cons, List.length_nil, List.map_cons, List.map_nil, List.cons_append, List.nil_append, List.replicate, Nat.reduceAdd, Nat.reduceSub, Nat.reduceLT, Nat.reduceLeDiff, true_and, and_true, m0, calling_some, lend_zero, lentK_at, hd, getElem0, putBack_at, e1, e2, e3, e4, r5']
      refine for_inv (fun rest e => ∃ c m t f x, c.length ≤ 63 ∧ e = [some (dk c m t), some (.fz (.int W)), some (.fz (.int r)), some (.fz (.int f)), x]) (fun d ds e h => ?_) (fun e h => ?_) _ _ ⟨c1, m1, t1, 0, none, hc, rfl⟩
      · obtain ⟨c, m, t, f, x, hc', rfl⟩ := h
        obtain ⟨r6, c6, m6, t6, hd6, _, _, hc6⟩ := draw h0 (cs := c) (m := m) (t := t) (many := 65536) (by decide) (by decide) hc' n
        simp only [bind_bnd, wp_bnd, wp_ret, wp_bad, ev_var, ev_lit, ev_bin, ev_neg, ev_cmp, ev_and, ev_or, ev_not, ev_ite, ev_tup, ev_lst, ev_idx, ev_slc, ev_call, ev_kcall, ev_bi, ev_comp, ev_meth, evs_nil, evs_cons, evo_nil, evo_cons, evc_nil, evc_cons, evi_of, evi_rng, evi_enm, evi_zip, evi_rvs, exs_nil, exs_cons, ex_expr, ex_set, ex_unp, ex_par, ex_put, ex_ite, ex_whl, ex_fr, ex_rt, stores_nil, stores_var, opd_tmp, opd_at, val_tmp, val_atE, valD_def, see_fz, see_at, keep_fz, keep_at, give_fz, give_at, slotAt_def, varK_fz, varK_lst, idxK_fz, idxK_at, nodeK_fz, nodeK_lst, kidK_fz, kidK_lst, seeAll_nil, seeAll_cons, keepAll_nil, keepAll_cons, giveAll_nil, giveAll_cons, leave_tmp, leave_at, isLst_at, isAt_at, putAt_at, tgs_var, forL_nil, forL_cons, calling_none, calling_some, lend_noneE, lend_zero, lend_succ, lentK_fz, lentK_at, putBack_at, wpS, wpSet, wpOpt, wpIte, wpLeave, test_def, boolK_t, boolK_f, kid0, kid1, kid2, frz_fz, shal_fz, frz_nil, shal_nil, frz_ints, shal_ints, varK_dk, nodeK_dk, getAt_nil, getAt_dk0, setAt_nil, setAt_dk0, putD_dk2, negK_int, notK_bool, cmp_eqI, cmp_neI, cmp_ltI, cmp_leI, cmp_gtI, cmp_geI, cmp_neN, tru_bool, add_int, sub_int, bi_intI, bi_intB, bi_absI, rngK_2, limE, wpBoolK, behind_rt0, behind_rtN, if_true, if_false, Bool.false_eq_true, Bool.not_true, Bool.not_false, Bool.true_eq_false, List.isEmpty_nil, List.isEmpty_cons, decide_true, decide_false, List.isEmpty, Nat.zero_le, decide_eq_true_eq, List.getElem?_cons_zero, List.getElem?_cons_succ, List.set_cons_zero, List.set_cons_succ, List.length_cons, List.length_nil, List.map_cons, List.map_nil, List.cons_append, List.nil_append, List.replicate, Nat.reduceAdd, Nat.reduceSub, Nat.reduceLT, Nat.reduceLeDiff, true_and, and_true, m0, calling_some, lend_zero, lentK_at, hd6, getElem0, putBack_at, s5]
        exact ⟨c6, m6, t6, _, _, hc6, rfl⟩
      · obtain ⟨c, m, t, f, x, hc', rfl⟩ := h
        simp only [bind_bnd, wp_bnd, wp_ret, wp_bad, ev_var, ev_lit, ev_bin, ev_neg, ev_cmp, ev_and, ev_or, ev_not, ev_ite, ev_tup, ev_lst, ev_idx, ev_slc, ev_call, ev_kcall, ev_bi, ev_comp, ev_meth, evs_nil, evs_cons, evo_nil, evo_cons, evc_nil, evc_cons, evi_of, evi_rng, evi_enm, evi_zip, evi_rvs, exs_nil, exs_cons, ex_expr, ex_set, ex_unp, ex_par, ex_put, ex_ite, ex_whl, ex_fr, ex_rt, stores_nil, stores_var, opd_tmp, opd_at, val_tmp, val_atE, valD_def, see_fz, see_at, keep_fz, keep_at, give_fz, give_at, slotAt_def, varK_fz, varK_lst, idxK_fz, idxK_at, nodeK_fz, nodeK_lst, kidK_fz, kidK_lst, seeAll_nil, seeAll_cons, keepAll_nil, keepAll_cons, giveAll_nil, giveAll_cons, leave_tmp, leave_at, isLst_at, isAt_at, putAt_at, tgs_var, forL_nil, forL_cons, calling_none, calling_some, lend_noneE, lend_zero, lend_succ, lentK_fz, lentK_at, putBack_at, wpS, wpSet, wpOpt, wpIte, wpLeave, test_def, boolK_t, boolK_f, kid0, kid1, kid2, frz_fz, shal_fz, frz_nil, shal_nil, frz_ints, shal_ints, varK_dk, nodeK_dk, getAt_nil, getAt_dk0, setAt_nil, setAt_dk0, putD_dk2, negK_int, notK_bool, cmp_eqI, cmp_neI, cmp_ltI, cmp_leI, cmp_gtI, cmp_geI, cmp_neN, tru_bool, add_int, sub_int, bi_intI, bi_intB, bi_absI, rngK_2, limE, wpBoolK, behind_rt0, behind_rtN, if_true, if_false, Bool.false_eq_true, Bool.not_true, Bool.not_false, Bool.true_eq_false, List.isEmpty_nil, List.isEmpty_cons, decide_true, decide_false, List.isEmpty, Nat.zero_le, decide_eq_true_eq, List.getElem?_cons_zero, List.getElem?_cons_succ, List.set_cons_zero, List.set_cons_succ, List.length_cons, List.length_nil, List.map_cons, List.map_nil, List.cons_append, List.nil_append, List.replicate, Nat.reduceAdd, Nat.reduceSub, Nat.reduceLT, Nat.reduceLeDiff, true_and, and_true, s1, s3]
        exact ⟨_, _, _, _, rfl, (fin _).1, (fin _).2, hc'⟩
    obtain ⟨f, e', z, x, cs', m', t', p1, p2, p3, p4⟩ := wp_ok key
    refine ⟨x, cs', m', t', ?_, p2, p3, p4⟩
    rw [call_fn hG rfl, ← p1]
    exact congrArg (behind f_law_word) z
end HW
end

section
set_option linter.all false
set_option maxHeartbeats 4000000
set_option maxRecDepth 4000
/-! # Plain: states -/
namespace HW
open PySem PyProof.Rows PySem.W
/-- words of w bits -/
def Wd (w : Nat) (ws : List Int) : Prop := ∀ x ∈ ws, 0 ≤ x ∧ x < 2 ^ w
theorem state_ok {G : Nat → Option Fn} (h0 : G i_law_draw = some f_law_draw) (h1 : G i_law_word = some f_law_word) (hG : G i_law_state = some f_law_state) {cs : List Int} {m t : Int} (hl : cs.length ≤ 63) (k w : Nat) {N W : Int} (hN : N = k) (hW : W = w) (hk : k ≤ 1000) (hw0 : 0 < w) (hw : w ≤ 1000) {n : Nat} (hn : 3 ≤ n) :
    ∃ ws cs' m' t', callN G n i_law_state [dk cs m t, .fz (.int N), .fz (.int W)] = .ok (.fz (.tuple (intsL ws))) (some (dk cs' m' t')) ∧ Wd w ws ∧ ws.length = k ∧ cs'.length ≤ 63 := by
  obtain ⟨n, rfl⟩ : ∃ m, n = m + 1 := ⟨n - 1, by omega⟩
  have m1 := muS h1
  have hr : rngK [.int N] = ret (intsL ((List.range k).map fun (k : Nat) => (k : Int))) := by rw [hN]; exact rngK_nat (by omega)
  have hwd : ∀ {cs : List Int} {m t : Int}, cs.length ≤ 63 → ∃ x cs' m' t', callN G n i_law_word [dk cs m t, .fz (.int W)] = .ok (.fz (.int x)) (some (dk cs' m' t')) ∧ 0 ≤ x ∧ x < 2 ^ w ∧ cs'.length ≤ 63 := fun h => word_ok h0 h1 h w hW hw0 hw (by omega)
  clear hN hW
  have key : wp (exs (fun g => (G g).bind fun x => x.mu) (callN G n) f_law_state.body) [some (dk cs m t), some (.fz (.int N)), some (.fz (.int W)), none] fun f e' => ∃ ws cs' m' t', behind f_law_state (.ok f e') = .ok (.fz (.tuple (intsL ws))) (some (dk cs' m' t')) ∧ Wd w ws ∧ ws.length = k ∧ cs'.length ≤ 63 := by
    simp only [f_law_state, bind_bnd, wp_bnd, wp_ret, wp_bad, ev_var, ev_lit, ev_bin, ev_neg, ev_cmp, ev_and, ev_or, ev_not, ev_ite, ev_tup, ev_lst, ev_idx, ev_slc, ev_call, ev_kcall, ev_bi, ev_comp, ev_meth, evs_nil, evs_cons, evo_nil, evo_cons, evc_nil, evc_cons, evi_of, evi_rng, evi_enm, evi_zip, evi_rvs, exs_nil, exs_cons, ex_expr, ex_set, ex_unp, ex_par, ex_put, ex_ite, ex_whl, ex_fr, ex_rt, stores_nil, stores_var, opd_tmp, opd_at, val_tmp, val_atE, valD_def, see_fz, see_at, keep_fz, keep_at, give_fz, give_at, slotAt_def, varK_fz, varK_lst, idxK_fz, idxK_at, nodeK_fz, nodeK_lst, kidK_fz, kidK_lst, seeAll_nil, seeAll_cons, keepAll_nil, keepAll_cons, giveAll_nil, giveAll_cons, leave_tmp, leave_at, isLst_at, isAt_at, putAt_at, tgs_var, forL_nil, forL_cons, calling_none, calling_some, lend_noneE, lend_zero, lend_succ, lentK_fz, lentK_at, putBack_at, wpS, wpSet, wpOpt, wpIte, wpLeave, test_def, boolK_t, boolK_f, kid0, kid1, kid2, frz_fz, shal_fz, frz_nil, shal_nil, frz_ints, shal_ints, varK_dk, nodeK_dk, getAt_nil, getAt_dk0, setAt_nil, setAt_dk0, putD_dk2, negK_int, notK_bool, cmp_eqI, cmp_neI, cmp_ltI, cmp_leI, cmp_gtI, cmp_geI, cmp_neN, tru_bool, add_int, sub_int, bi_intI, bi_intB, bi_absI, rngK_2, limE, wpBoolK, behind_rt0, behind_rtN, if_true, if_false, Bool.false_eq_true, Bool.not_true, Bool.not_false, Bool.true_eq_false, List.isEmpty_nil, List.isEmpty_cons, decide_true, decide_false, List.isEmpty, Nat.zero_le, decide_eq_true_eq, List.getElem?_cons_zero, List.getElem?_cons_succ, List.set_cons_zero, List.set_cons_succ, List.length_cons, List.length_nil, List.map_cons, List.map_nil, List.cons_append, List.nil_append, List.replicate, Nat.reduceAdd, Nat.reduceSub, Nat.reduceLT, Nat.reduceLeDiff, true_and, and_true, hr, m1]
    refine comp_inv (fun rest ys e => ∃ b c m t, ys = intsL b ∧ Wd w b ∧ b.length + rest.length = k ∧ c.length ≤ 63 ∧ wipeE e [3] = [some (dk c m t), some (.fz (.int N)), some (.fz (.int W)), none]) (fun d rest ys e h => ?_) ⟨[], cs, m, t, rfl, fun x hx => (by cases hx), (by rw [len_ints]; simp), hl, rfl⟩ (fun ys e h => ?_)
    · obtain ⟨b, c, m, t, rfl, hb, hbl, hc, he⟩ := h
      obtain ⟨x, c', m', t', hx, x0, x1, hc'⟩ := hwd (m := m) (t := t) hc
      rw [he]
      simp only [bind_bnd, wp_bnd, wp_ret, wp_bad, ev_var, ev_lit, ev_bin, ev_neg, ev_cmp, ev_and, ev_or, ev_not, ev_ite, ev_tup, ev_lst, ev_idx, ev_slc, ev_call, ev_kcall, ev_bi, ev_comp, ev_meth, evs_nil, evs_cons, evo_nil, evo_cons, evc_nil, evc_cons, evi_of, evi_rng, evi_enm, evi_zip, evi_rvs, exs_nil, exs_cons, ex_expr, ex_set, ex_unp, ex_par, ex_put, ex_ite, ex_whl, ex_fr, ex_rt, stores_nil, stores_var, opd_tmp, opd_at, val_tmp, val_atE, valD_def, see_fz, see_at, keep_fz, keep_at, give_fz, give_at, slotAt_def, varK_fz, varK_lst, idxK_fz, idxK_at, nodeK_fz, nodeK_lst, kidK_fz, kidK_lst, seeAll_nil, seeAll_cons, keepAll_nil, keepAll_cons, giveAll_nil, giveAll_cons, leave_tmp, leave_at, isLst_at, isAt_at, putAt_at, tgs_var, forL_nil, forL_cons, calling_none, calling_some, lend_noneE, lend_zero, lend_succ, lentK_fz, lentK_at, putBack_at, wpS, wpSet, wpOpt, wpIte, wpLeave, test_def, boolK_t, boolK_f, kid0, kid1, kid2, frz_fz, shal_fz, frz_nil, shal_nil, frz_ints, shal_ints, varK_dk, nodeK_dk, getAt_nil, getAt_dk0, setAt_nil, setAt_dk0, putD_dk2, negK_int, notK_bool, cmp_eqI, cmp_neI, cmp_ltI, cmp_leI, cmp_gtI, cmp_geI, cmp_neN, tru_bool, add_int, sub_int, bi_intI, bi_intB, bi_absI, rngK_2, limE, wpBoolK, behind_rt0, behind_rtN, if_true, if_false, Bool.false_eq_true, Bool.not_true, Bool.not_false, Bool.true_eq_false, List.isEmpty_nil, List.isEmpty_cons, decide_true, decide_false, List.isEmpty, Nat.zero_le, decide_eq_true_eq, List.getElem?_cons_zero, List.getElem?_cons_succ, List.set_cons_zero, List.set_cons_succ, List.length_cons, List.length_nil, List.map_cons, List.map_nil, List.cons_append, List.nil_append, List.replicate, Nat.reduceAdd, Nat.reduceSub, Nat.reduceLT, Nat.reduceLeDiff, true_and, and_true, calling_some, lend_zero, lentK_at, hx, getElem0, putBack_at, valD_def]
      refine ⟨?_, b ++ [x], c', m', t', by simp [intsL], ?_, by simp at hbl ⊢; omega, hc', rfl⟩
      · rw [len_ints]; simp at hbl; omega
      · intro y hy
        rcases List.mem_append.mp hy with z | z
        · exact hb y z
        · rw [List.mem_singleton.mp z]; exact ⟨x0, x1⟩
    · obtain ⟨b, c, m', t', rfl, hb, hbl, hc, he⟩ := h
      rw [rest_wipe (by rfl), he]
      simp only [bind_bnd, wp_bnd, wp_ret, wp_bad, ev_var, ev_lit, ev_bin, ev_neg, ev_cmp, ev_and, ev_or, ev_not, ev_ite, ev_tup, ev_lst, ev_idx, ev_slc, ev_call, ev_kcall, ev_bi, ev_comp, ev_meth, evs_nil, evs_cons, evo_nil, evo_cons, evc_nil, evc_cons, evi_of, evi_rng, evi_enm, evi_zip, evi_rvs, exs_nil, exs_cons, ex_expr, ex_set, ex_unp, ex_par, ex_put, ex_ite, ex_whl, ex_fr, ex_rt, stores_nil, stores_var, opd_tmp, opd_at, val_tmp, val_atE, valD_def, see_fz, see_at, keep_fz, keep_at, give_fz, give_at, slotAt_def, varK_fz, varK_lst, idxK_fz, idxK_at, nodeK_fz, nodeK_lst, kidK_fz, kidK_lst, seeAll_nil, seeAll_cons, keepAll_nil, keepAll_cons, giveAll_nil, giveAll_cons, leave_tmp, leave_at, isLst_at, isAt_at, putAt_at, tgs_var, forL_nil, forL_cons, calling_none, calling_some, lend_noneE, lend_zero, lend_succ, lentK_fz, lentK_at, putBack_at, wpS, wpSet, wpOpt, wpIte, wpLeave, test_def, boolK_t, boolK_f, kid0, kid1, kid2, frz_fz, shal_fz, frz_nil, shal_nil, frz_ints, shal_ints, varK_dk, nodeK_dk, getAt_nil, getAt_dk0, setAt_nil, setAt_dk0, putD_dk2, negK_int, notK_bool, cmp_eqI, cmp_neI, cmp_ltI, cmp_leI, cmp_gtI, cmp_geI, cmp_neN, tru_bool, add_int, sub_int, bi_intI, bi_intB, bi_absI, rngK_2, limE, wpBoolK, behind_rt0, behind_rtN, if_true, if_false, Bool.false_eq_true, Bool.not_true, Bool.not_false, Bool.true_eq_false, List.isEmpty_nil, List.isEmpty_cons, decide_true, decide_false, List.isEmpty, Nat.zero_le, decide_eq_true_eq, List.getElem?_cons_zero, List.getElem?_cons_succ, List.set_cons_zero, List.set_cons_succ, List.length_cons, List.length_nil, List.map_cons, List.map_nil, List.cons_append, List.nil_append, List.replicate, Nat.reduceAdd, Nat.reduceSub, Nat.reduceLT, Nat.reduceLeDiff, true_and, and_true, frz_fzs', kA_tuple, bi_tupL]
      exact ⟨b, c, m', t', rfl, hb, by simpa using hbl, hc⟩
  obtain ⟨f, e', z, ws, cs', m', t', p1, p2, p3, p4⟩ := wp_ok key
  refine ⟨ws, cs', m', t', ?_, p2, p3, p4⟩
  rw [call_fn hG rfl, ← p1]
  exact congrArg (behind f_law_state) z
end HW
end

section
set_option linter.all false
set_option maxHeartbeats 4000000
set_option maxRecDepth 4000
/-! # Plain: states nearby -/
namespace HW
open PySem PyProof.Rows PySem.W
def mixs (l : Nat) : List Int → List Int → List Int
  | x :: xs, y :: ys => (x % 2 ^ l + y / 2 ^ l * 2 ^ l) :: mixs l xs ys
  | _, _ => []
def mixF (l : Nat) : PyData → PyData
  | .tuple [.int x, .int y] => .int (x % 2 ^ l + y / 2 ^ l * 2 ^ l)
  | d => d
theorem mix_map (l : Nat) : ∀ a b : List Int, (zipL (intsL a) (intsL b)).map (mixF l) = intsL (mixs l a b)
  | [], b => by simp [zipL, intsL, mixs]
  | x :: a, [] => by simp [zipL, intsL, mixs]
  | x :: a, y :: b => by
    show mixF l (.tuple [.int x, .int y]) :: (zipL (intsL a) (intsL b)).map (mixF l) = .int (x % 2 ^ l + y / 2 ^ l * 2 ^ l) :: intsL (mixs l a b)
    rw [mix_map l a b]; rfl
theorem mixs_len (l : Nat) : ∀ a b : List Int, a.length = b.length → (mixs l a b).length = a.length
  | [], [], _ => rfl
  | x :: a, y :: b, h => by simp [mixs]; exact mixs_len l a b (by simpa using h)
  | [], y :: b, h => by simp at h
  | x :: a, [], h => by simp at h
theorem mix_lt {x y : Int} {l w : Nat} (hl : l ≤ w) (hx : 0 ≤ x) (hy0 : 0 ≤ y) (hy : y < 2 ^ w) : 0 ≤ x % 2 ^ l + y / 2 ^ l * 2 ^ l ∧ x % 2 ^ l + y / 2 ^ l * 2 ^ l < 2 ^ w := by
  have hp := kbt_pos l
  have h1 := Int.emod_nonneg x (show (2 : Int) ^ l ≠ 0 by omega)
  have h2 := Int.emod_lt_of_pos x hp
  have h3 := Int.ediv_nonneg hy0 (Int.le_of_lt hp)
  have e : (2 : Int) ^ w = 2 ^ (w - l) * 2 ^ l := by rw [← Int.pow_add, Nat.sub_add_cancel hl]
  have h4 : y / 2 ^ l < 2 ^ (w - l) := Int.ediv_lt_of_lt_mul hp (by rw [← e]; exact hy)
  have h5 : y / 2 ^ l * 2 ^ l ≤ (2 ^ (w - l) - 1) * 2 ^ l := Int.mul_le_mul_of_nonneg_right (by omega) (Int.le_of_lt hp)
  have h6 : (2 ^ (w - l) - 1) * (2 : Int) ^ l = 2 ^ w - 2 ^ l := by rw [Int.sub_mul, ← e, Int.one_mul]
  have h7 := Int.mul_nonneg h3 (Int.le_of_lt hp)
  omega
theorem mixs_wd (l w : Nat) (hl : l ≤ w) : ∀ a b : List Int, (∀ x ∈ a, 0 ≤ x) → Wd w b → Wd w (mixs l a b)
  | [], b, _, _ => fun x hx => by simp [mixs] at hx
  | x :: a, [], _, _ => fun x hx => by simp [mixs] at hx
  | x :: a, y :: b, ha, hb => fun z hz => by
    rcases List.mem_cons.mp (show z ∈ (x % 2 ^ l + y / 2 ^ l * 2 ^ l) :: mixs l a b from hz) with rfl | hz
    · exact mix_lt hl (ha x List.mem_cons_self) (hb y List.mem_cons_self).1 (hb y List.mem_cons_self).2
    · exact mixs_wd l w hl a b (fun x h => ha x (List.mem_cons_of_mem _ h)) (fun x h => hb x (List.mem_cons_of_mem _ h)) z hz
theorem zip_mem2 : ∀ {a b : List Int} {d : PyData}, d ∈ zipL (intsL a) (intsL b) → ∃ x y, d = .tuple [.int x, .int y] ∧ x ∈ a ∧ y ∈ b
  | [], b, d, h => by simp [zipL, intsL] at h
  | x :: a, [], d, h => by simp [zipL, intsL] at h
  | x :: a, y :: b, d, h => by
    rcases List.mem_cons.mp (show d ∈ .tuple [.int x, .int y] :: zipL (intsL a) (intsL b) from h) with rfl | h
    · exact ⟨x, y, rfl, List.mem_cons_self, List.mem_cons_self⟩
    · obtain ⟨x', y', e, h1, h2⟩ := zip_mem2 h
      exact ⟨x', y', e, List.mem_cons_of_mem _ h1, List.mem_cons_of_mem _ h2⟩
theorem near_ok {G : Nat → Option Fn} (h0 : G i_law_draw = some f_law_draw) (h1 : G i_law_word = some f_law_word) (h2 : G i_law_state = some f_law_state) (hG : G i_law_near = some f_law_near) {cs : List Int} {m t : Int} (hl : cs.length ≤ 63) (ws : List Int) (w : Nat) {W : Int} (hW : W = w) (hws : Wd w ws) (hlen : ws.length ≤ 1000) (hw0 : 0 < w) (hw : w ≤ 64) {n : Nat} (hn : 4 ≤ n) :
    ∃ l b cs' m' t', callN G n i_law_near [dk cs m t, .fz (.tuple (intsL ws)), .fz (.int W)] = .ok (.fz (.tuple (intsL (mixs l ws b)))) (some (dk cs' m' t')) ∧ l ≤ w ∧ Wd w b ∧ b.length = ws.length ∧ cs'.length ≤ 63 := by
  obtain ⟨n, rfl⟩ : ∃ m, n = m + 2 := ⟨n - 2, by omega⟩
  have m0 := muS h0
  have m2 := muS h2
  obtain ⟨r, c1, m1, t1, hd, r0, r1, hc1⟩ := draw h0 (cs := cs) (m := m) (t := t) (many := W + 1) (by omega) (by rw [hW, show (w : Int) + 1 = ((w + 1 : Nat) : Int) by omega]; exact log_small (by omega) (by omega)) hl n
  obtain ⟨l, rfl⟩ : ∃ l : Nat, r = l := ⟨r.toNat, by omega⟩
  have hlw : l ≤ w := by omega
  obtain ⟨b, c2, m3, t2, hs, hb, hbl, hc2⟩ := state_ok h0 h1 h2 (m := m1) (t := t1) hc1 ws.length w (N := (ws.length : Int)) rfl hW hlen hw0 (by omega) (n := n + 1) (by omega)
  refine ⟨l, b, c2, m3, t2, ?_, hlw, hb, hbl, hc2⟩
  have hp := kbt_pos l
  have s1 : binD .shl (.int 1) (.int (l : Int)) = some (.fz (.int (2 ^ l))) := by rw [shl_int (by decide) (by omega), Int.one_mul]
  have s2 : ∀ y : Int, binD .mod (.int y) (.int (2 ^ l)) = some (.fz (.int (y % 2 ^ l))) := fun y => mod_int hp
  have lg : ((2 : Int) ^ l).natAbs.log2 < 9000 := by
    have e1 : ((2 : Int) ^ l).natAbs = 2 ^ l := by rw [← kbt_cast]; exact Int.natAbs_natCast _
    rw [e1, Nat.log2_two_pow]; omega
  have s3 : ∀ y : Int, binD .fdiv (.int y) (.int (2 ^ l)) = some (.fz (.int (y / 2 ^ l))) := fun y => div_int hp lg
  have s4 : ∀ y ∈ b, binD .mul (.int (y / 2 ^ l)) (.int (2 ^ l)) = some (.fz (.int (y / 2 ^ l * 2 ^ l))) := fun y hy => by
    have h3 := Int.ediv_nonneg (hb y hy).1 (Int.le_of_lt hp)
    have h4 := Int.ediv_le_self (2 ^ l) (hb y hy).1
    have h5 : (2 : Int) ^ w ≤ 2 ^ 64 := by
      rcases Nat.lt_or_ge w 64 with z | z
      · exact Int.le_of_lt (pow_lt_pow z)
      · rw [show w = 64 by omega]; exact Int.le_refl _
    have h6 := (hb y hy).2
    exact mul_int (mulOk_l (by omega) (by omega))
  have e11 : ∀ ps : List Opd, biArgs .len ps = seeAll ps := fun ps => biArgs_see rfl
  have e9 : ∀ ps : List Opd, biArgs .int ps = seeAll ps := fun ps => biArgs_see rfl
  clear hW r0 r1
  generalize ((l : Nat) : Int) = Lv at hd s1
  generalize hLn : ((ws.length : Nat) : Int) = Ln at hs
  refine call_wp hG rfl ?_
  simp only [f_law_near, bind_bnd, wp_bnd, wp_ret, wp_bad, ev_var, ev_lit, ev_bin, ev_neg, ev_cmp, ev_and, ev_or, ev_not, ev_ite, ev_tup, ev_lst, ev_idx, ev_slc, ev_call, ev_kcall, ev_bi, ev_comp, ev_meth, evs_nil, evs_cons, evo_nil, evo_cons, evc_nil, evc_cons, evi_of, evi_rng, evi_enm, evi_zip, evi_rvs, exs_nil, exs_cons, ex_expr, ex_set, ex_unp, ex_par, ex_put, ex_ite, ex_whl, ex_fr, ex_rt, stores_nil, stores_var, opd_tmp, opd_at, val_tmp, val_atE, valD_def, see_fz, see_at, keep_fz, keep_at, give_fz, give_at, slotAt_def, varK_fz, varK_lst, idxK_fz, idxK_at, nodeK_fz, nodeK_lst, kidK_fz, kidK_lst, seeAll_nil, seeAll_cons, keepAll_nil, keepAll_cons, giveAll_nil, giveAll_cons, leave_tmp, leave_at, isLst_at, isAt_at, putAt_at, tgs_var, forL_nil, forL_cons, calling_none, calling_some, lend_noneE, lend_zero, lend_succ, lentK_fz, lentK_at, putBack_at, wpS, wpSet, wpOpt, wpIte, wpLeave, test_def, boolK_t, boolK_f, kid0, kid1, kid2, frz_fz, shal_fz, frz_nil, shal_nil, frz_ints, shal_ints, varK_dk, nodeK_dk, getAt_nil, getAt_dk0, setAt_nil, setAt_dk0, putD_dk2, negK_int, notK_bool, cmp_eqI, cmp_neI, cmp_ltI, cmp_leI, cmp_gtI, cmp_geI, cmp_neN, tru_bool, add_int, sub_int, bi_intI, bi_intB, bi_absI, rngK_2, limE, wpBoolK, behind_rt0, behind_rtN, if_true, if_false, Bool.false_eq_true, Bool.not_true, Bool.not_false, Bool.true_eq_false, List.isEmpty_nil, List.isEmpty_cons, decide_true, decide_false, List.isEmpty, Nat.zero_le, decide_eq_true_eq, List.getElem?_cons_zero, List.getElem?_cons_succ, List.set_cons_zero, List.set_cons_succ, List.length_cons, List.length_nil, List.map_cons, List.map_nil, List.cons_append, List.nil_append, List.replicate, Nat.reduceAdd, Nat.reduceSub, Nat.reduceLT, Nat.reduceLeDiff, true_and, and_true, m0, m2, calling_some, lend_zero, lentK_at, hd, getElem0, putBack_at, e11, bi_lenT, len_ints, hLn, hs, zipK_tt]
  refine comp_map (mixF l) rfl (by refine lim_big (Nat.le_trans zip_len ?_); rw [len_ints]; exact hlen) (fun d hdm => ?_) ?_
  · obtain ⟨x, y, rfl, hx, hy⟩ := zip_mem2 hdm
    simp only [bind_bnd, wp_bnd, wp_ret, wp_bad, ev_var, ev_lit, ev_bin, ev_neg, ev_cmp, ev_and, ev_or, ev_not, ev_ite, ev_tup, ev_lst, ev_idx, ev_slc, ev_call, ev_kcall, ev_bi, ev_comp, ev_meth, evs_nil, evs_cons, evo_nil, evo_cons, evc_nil, evc_cons, evi_of, evi_rng, evi_enm, evi_zip, evi_rvs, exs_nil, exs_cons, ex_expr, ex_set, ex_unp, ex_par, ex_put, ex_ite, ex_whl, ex_fr, ex_rt, stores_nil, stores_var, opd_tmp, opd_at, val_tmp, val_atE, valD_def, see_fz, see_at, keep_fz, keep_at, give_fz, give_at, slotAt_def, varK_fz, varK_lst, idxK_fz, idxK_at, nodeK_fz, nodeK_lst, kidK_fz, kidK_lst, seeAll_nil, seeAll_cons, keepAll_nil, keepAll_cons, giveAll_nil, giveAll_cons, leave_tmp, leave_at, isLst_at, isAt_at, putAt_at, tgs_var, forL_nil, forL_cons, calling_none, calling_some, lend_noneE, lend_zero, lend_succ, lentK_fz, lentK_at, putBack_at, wpS, wpSet, wpOpt, wpIte, wpLeave, test_def, boolK_t, boolK_f, kid0, kid1, kid2, frz_fz, shal_fz, frz_nil, shal_nil, frz_ints, shal_ints, varK_dk, nodeK_dk, getAt_nil, getAt_dk0, setAt_nil, setAt_dk0, putD_dk2, negK_int, notK_bool, cmp_eqI, cmp_neI, cmp_ltI, cmp_leI, cmp_gtI, cmp_geI, cmp_neN, tru_bool, add_int, sub_int, bi_intI, bi_intB, bi_absI, rngK_2, limE, wpBoolK, behind_rt0, behind_rtN, if_true, if_false, Bool.false_eq_true, Bool.not_true, Bool.not_false, Bool.true_eq_false, List.isEmpty_nil, List.isEmpty_cons, decide_true, decide_false, List.isEmpty, Nat.zero_le, decide_eq_true_eq, List.getElem?_cons_zero, List.getElem?_cons_succ, List.set_cons_zero, List.set_cons_succ, List.length_cons, List.length_nil, List.map_cons, List.map_nil, List.cons_append, List.nil_append, List.replicate, Nat.reduceAdd, Nat.reduceSub, Nat.reduceLT, Nat.reduceLeDiff, true_and, and_true, tgs_two, e9, s1, s2, s3, s4 y hy, valD_def]
    exact ⟨rfl, rfl⟩
  · rw [mix_map]
    simp only [bind_bnd, wp_bnd, wp_ret, wp_bad, ev_var, ev_lit, ev_bin, ev_neg, ev_cmp, ev_and, ev_or, ev_not, ev_ite, ev_tup, ev_lst, ev_idx, ev_slc, ev_call, ev_kcall, ev_bi, ev_comp, ev_meth, evs_nil, evs_cons, evo_nil, evo_cons, evc_nil, evc_cons, evi_of, evi_rng, evi_enm, evi_zip, evi_rvs, exs_nil, exs_cons, ex_expr, ex_set, ex_unp, ex_par, ex_put, ex_ite, ex_whl, ex_fr, ex_rt, stores_nil, stores_var, opd_tmp, opd_at, val_tmp, val_atE, valD_def, see_fz, see_at, keep_fz, keep_at, give_fz, give_at, slotAt_def, varK_fz, varK_lst, idxK_fz, idxK_at, nodeK_fz, nodeK_lst, kidK_fz, kidK_lst, seeAll_nil, seeAll_cons, keepAll_nil, keepAll_cons, giveAll_nil, giveAll_cons, leave_tmp, leave_at, isLst_at, isAt_at, putAt_at, tgs_var, forL_nil, forL_cons, calling_none, calling_some, lend_noneE, lend_zero, lend_succ, lentK_fz, lentK_at, putBack_at, wpS, wpSet, wpOpt, wpIte, wpLeave, test_def, boolK_t, boolK_f, kid0, kid1, kid2, frz_fz, shal_fz, frz_nil, shal_nil, frz_ints, shal_ints, varK_dk, nodeK_dk, getAt_nil, getAt_dk0, setAt_nil, setAt_dk0, putD_dk2, negK_int, notK_bool, cmp_eqI, cmp_neI, cmp_ltI, cmp_leI, cmp_gtI, cmp_geI, cmp_neN, tru_bool, add_int, sub_int, bi_intI, bi_intB, bi_absI, rngK_2, limE, wpBoolK, behind_rt0, behind_rtN, if_true, if_false, Bool.false_eq_true, Bool.not_true, Bool.not_false, Bool.true_eq_false, List.isEmpty_nil, List.isEmpty_cons, decide_true, decide_false, List.isEmpty, Nat.zero_le, decide_eq_true_eq, List.getElem?_cons_zero, List.getElem?_cons_succ, List.set_cons_zero, List.set_cons_succ, List.length_cons, List.length_nil, List.map_cons, List.map_nil, List.cons_append, List.nil_append, List.replicate, Nat.reduceAdd, Nat.reduceSub, Nat.reduceLT, Nat.reduceLeDiff, true_and, and_true, frz_fzs', kA_tuple, bi_tupL]
end HW
end

section
set_option linter.all false
set_option maxHeartbeats 1000000
/-! # Plain: what may be shown -/
namespace HW
open PySem PyProof.Rows PySem.W
structure Sm (k n : Nat) (d : PyData) : Prop where
  lay : d.canLay0 = true
  sh : d.showable = true
  dp : d.depth ≤ k
  st : d.intsShort 21 = true
  wt : d.weight ≤ n
structure SmA (k n : Nat) (ds : List PyData) : Prop where
  lay : PyData.canLayAll0 ds = true
  sh : PyData.showableAll ds = true
  dp : PyData.depthAll ds ≤ k
  st : PyData.intsShortAll 21 ds = true
  wt : PyData.weightAll ds ≤ n
theorem Sm.repr {k n : Nat} {d : PyData} (h : Sm k n d) (hk : k ≤ 64) (hn : 23 * n + 21 ≤ 16777216) : reprOk d = true := by
  have hl := PyData.shown_le 21 (by decide) d (PyData.leavesShort_of_canLay0 21 d h.lay h.st)
  have h1 : d.shown.length ≤ lim := by
    have := Nat.mul_le_mul_left 23 h.wt
    rw [limE]
    omega
  unfold reprOk
  rw [h.sh, decide_eq_true (Nat.le_trans h.dp hk), decide_eq_true h1, h.lay]; rfl
theorem SmA.nil {k n : Nat} : SmA k n [] := ⟨rfl, rfl, Nat.zero_le _, rfl, Nat.zero_le _⟩
theorem SmA.cons {k n m : Nat} {d : PyData} {ds : List PyData} (h : Sm k n d) (g : SmA k m ds) : SmA k (n + 1 + m) (d :: ds) :=
  ⟨by show (d.canLay0 && PyData.canLayAll0 ds) = true; rw [h.lay, g.lay]; rfl, by show (d.showable && PyData.showableAll ds) = true; rw [h.sh, g.sh]; rfl, Nat.max_le.mpr ⟨h.dp, g.dp⟩, by show (d.intsShort 21 && PyData.intsShortAll 21 ds) = true; rw [h.st, g.st]; rfl, by
    show d.weight + 1 + PyData.weightAll ds ≤ _
    have := h.wt
    have := g.wt
    omega⟩
theorem SmA.list {k n : Nat} {ds : List PyData} (g : SmA k n ds) : Sm (k + 1) n (.list ds) := ⟨g.lay, g.sh, Nat.succ_le_succ g.dp, g.st, g.wt⟩
theorem SmA.tup {k n : Nat} {ds : List PyData} (g : SmA k n ds) : Sm (k + 1) n (.tuple ds) := ⟨g.lay, g.sh, Nat.succ_le_succ g.dp, g.st, g.wt⟩
theorem Sm.int {i : Int} {k : Nat} (h : i.natAbs < 2 ^ 65) : Sm k 65 (.int i) := by
  have lg : i.natAbs.log2 < 65 := by
    rcases Nat.eq_zero_or_pos i.natAbs with z | z
    · rw [z]; decide
    · exact (Nat.log2_lt (by omega)).mpr h
  refine ⟨rfl, decide_eq_true (by omega), Nat.zero_le _, decide_eq_true ?_, ?_⟩
  · have e := int_text_length_le10 (k := 20) (by decide) (Nat.lt_trans h (by decide))
    show (Str.ofString (toString i)).length ≤ 21
    rw [PySem.ofString_length]; exact e
  · show (if i == 0 then 0 else i.natAbs.log2 + 1) ≤ 65
    split <;> omega
theorem SmA.ints {k : Nat} : ∀ {cs : List Int}, (∀ x ∈ cs, x.natAbs < 2 ^ 65) → SmA k (66 * cs.length) (intsL cs)
  | [], _ => SmA.nil
  | c :: cs, h => by
    have := SmA.cons (Sm.int (k := k) (h c List.mem_cons_self)) (SmA.ints (cs := cs) fun x hx => h x (List.mem_cons_of_mem _ hx))
    refine ⟨this.lay, this.sh, this.dp, this.st, Nat.le_trans this.wt ?_⟩
    simp; omega
theorem Sm.mono {k k' n n' : Nat} {d : PyData} (h : Sm k n d) (h1 : k ≤ k') (h2 : n ≤ n') : Sm k' n' d := ⟨h.lay, h.sh, Nat.le_trans h.dp h1, h.st, Nat.le_trans h.wt h2⟩
theorem bi_repr {d : PyData} (h : reprOk d = true) : biD .repr [d] = some (.fz (.str d.shown)) := by
  show (if reprOk d then some (OD.fz (.str d.shown)) else none) = _
  rw [if_pos h]
end HW
end

section
set_option linter.all false
set_option maxHeartbeats 1000000
/-! # Plain: states and columns -/
namespace HW
open PySem PyProof.Rows PySem.W
theorem bit_high {x : Int} {w k : Nat} (h0 : 0 ≤ x) (h1 : x < 2 ^ w) (hk : w ≤ k) : bit x k = 0 := by
  have h2 : (2 : Int) ^ w ≤ 2 ^ k := by
    rcases Nat.lt_or_ge w k with z | z
    · exact Int.le_of_lt (pow_lt_pow z)
    · rw [show k = w by omega]; exact Int.le_refl _
  unfold bit
  rw [Int.ediv_eq_zero_of_lt h0 (by omega)]
  rfl
theorem colV_high {w k : Nat} (hk : w ≤ k) : ∀ {ws : List Int}, Wd w ws → colV ws k = 0
  | [], _ => rfl
  | x :: ws, h => by
    show bit x k + 2 * colV ws k = 0
    rw [bit_high (h x List.mem_cons_self).1 (h x List.mem_cons_self).2 hk, colV_high hk fun y hy => h y (List.mem_cons_of_mem _ hy)]
    rfl
/-- bits of bits -/
theorem bit_bit (x : Int) (k : Nat) : bit (bit x k) 0 = bit x k := by
  have := bit01 x k
  show bit x k / 2 ^ 0 % 2 = bit x k
  simp
  omega
theorem colV_bits (f g : Nat → Int) (i : Nat) : ∀ (l : List Nat), (∀ k ∈ l, bit (f k) i = bit (g k) 0) → colV (l.map f) i = colV (l.map g) 0
  | [], _ => rfl
  | k :: l, h => by
    show bit (f k) i + 2 * colV (l.map f) i = bit (g k) 0 + 2 * colV (l.map g) 0
    rw [h k List.mem_cons_self, colV_bits f g i l fun j hj => h j (List.mem_cons_of_mem _ hj)]
theorem cols_cols {w : Nat} {ws : List Int} (h : Wd w ws) : cols ws.length (cols w ws) = ws := by
  apply List.ext_getElem?
  intro i
  unfold cols
  rw [List.getElem?_map]
  by_cases l : i < ws.length
  · rw [List.getElem?_range l, List.getElem?_eq_getElem l]
    have hx := h ws[i] (List.getElem_mem l)
    show some (colV ((List.range w).map fun k => colV ws k) i) = some ws[i]
    rw [colV_bits (fun k => colV ws k) (fun k => bit ws[i] k) i (List.range w) fun k _ => by rw [bit_colV ws k i ws[i] (List.getElem?_eq_getElem l), bit_bit], bits_sum, Int.emod_eq_of_lt hx.1 hx.2]
  · rw [List.getElem?_eq_none (by simpa using l), List.getElem?_eq_none (by omega)]
    rfl
theorem cols_wd {w : Nat} {ws : List Int} : Wd ws.length (cols w ws) := fun x hx => by
  obtain ⟨k, _, rfl⟩ := List.mem_map.mp hx
  exact ⟨colV_nonneg ws k, colV_lt ws k⟩
end HW
end

section
set_option linter.all false
set_option maxHeartbeats 1000000
/-! # Plain: how far states are alike -/
namespace HW
open PySem PyProof.Rows PySem.W
theorem xor_half (x y : Int) : Builtin.bitXor x y / 2 = Builtin.bitXor (x / 2) (y / 2) ∧ Builtin.bitXor x y % 2 = (x % 2 + y % 2) % 2 := by
  have h1 := bitXor_and x y
  have h2 := bitXor_and (x / 2) (y / 2)
  have h3 := kbt_halves x y
  by_cases c : x % 2 = 1 ∧ y % 2 = 1
  · rw [if_pos c] at h3
    omega
  · rw [if_neg c] at h3
    omega
theorem bit_succ (x : Int) (k : Nat) : bit x (k + 1) = bit (x / 2) k := by
  unfold bit
  have : (2 : Int) ^ (k + 1) = 2 * 2 ^ k := by rw [Int.pow_succ, Int.mul_comm]
  rw [this, ← Int.ediv_ediv_of_nonneg (by decide)]
theorem bit_xor : ∀ (k : Nat) (x y : Int), bit (Builtin.bitXor x y) k = (bit x k + bit y k) % 2
  | 0, x, y => by
    have := (xor_half x y).2
    unfold bit
    simp
    omega
  | k + 1, x, y => by
    rw [bit_succ, bit_succ, bit_succ, (xor_half x y).1]
    exact bit_xor k _ _
theorem colV_xor : ∀ (a b : List Int) (k : Nat), a.length = b.length → (colV (xors a b) k = 0 ↔ colV a k = colV b k)
  | [], [], k, _ => by simp [xors, colV]
  | [], y :: b, k, h => by simp at h
  | x :: a, [], k, h => by simp at h
  | x :: a, y :: b, k, h => by
    have ih := colV_xor a b k (by simpa using h)
    have h1 := bit_xor k x y
    have h2 := bit01 x k
    have h3 := bit01 y k
    have h4 := colV_nonneg (xors a b) k
    show bit (Builtin.bitXor x y) k + 2 * colV (xors a b) k = 0 ↔ bit x k + 2 * colV a k = bit y k + 2 * colV b k
    rw [h1]
    constructor
    · intro z
      have : colV (xors a b) k = 0 := by omega
      have := ih.mp this
      omega
    · intro z
      have e : colV a k = colV b k := by omega
      have := ih.mpr e
      omega
theorem dep_shr (a b : List Int) (h : a.length = b.length) : ∀ (m i : Nat), dep (xors a b) i m = shr ((List.range' i m).map fun k => colV a k) ((List.range' i m).map fun k => colV b k)
  | 0, i => rfl
  | m + 1, i => by
    have ih := dep_shr a b h m (i + 1)
    have c := colV_xor a b i h
    show (if colV (xors a b) i = 0 then dep (xors a b) (i + 1) m + 1 else 0) = (if colV b i = colV a i then shr ((List.range' (i + 1) m).map fun k => colV a k) ((List.range' (i + 1) m).map fun k => colV b k) + 1 else 0)
    by_cases z : colV (xors a b) i = 0
    · rw [if_pos z, if_pos (c.mp z).symm, ih]
    · rw [if_neg z, if_neg fun e => z (c.mpr e.symm)]
theorem agree_shr {a b : List Int} (h : a.length = b.length) (w : Nat) : dep (xors a b) 0 w = shr (cols w a) (cols w b) := by
  have := dep_shr a b h w 0
  rw [← List.range_eq_range'] at this
  exact this
end HW
end

section
set_option linter.all false
set_option maxHeartbeats 4000000
set_option maxRecDepth 4000
/-! # Plain: whiles; picks of any data; rows mixed -/
namespace HW
open PySem PyProof.Rows PySem.W
theorem while_inv {test : M Bool} {body : M Fl} {P : Fl → Env → Prop} (I : Nat → Env → Prop) (step : ∀ k e, I k e → wp test e fun b e1 => if b = true then wp body e1 (fun f e2 => match f with | .nx => ∃ j, j < k ∧ I j e2 | .ct => ∃ j, j < k ∧ I j e2 | .bk => P .nx e2 | .rt o => P (.rt o) e2) else P .nx e1) :
    ∀ n k e, k < n → I k e → wp (whileL test body n) e P
  | 0, k, e, h, _ => absurd h (Nat.not_lt_zero _)
  | n + 1, k, e, h, hi => by
    show wp (bnd test fun k => if k then bnd body fun f => match f with | .nx => whileL test body n | .ct => whileL test body n | .bk => ret .nx | .rt o => ret (.rt o) else ret .nx) e P
    rw [wp_bnd]
    refine wp_mono (step k e hi) fun b e1 q => ?_
    cases b with
    | false => exact q
    | true =>
      show wp (bnd body _) e1 P
      rw [wp_bnd]
      refine wp_mono (show wp body e1 _ from q) fun f e2 q => ?_
      cases f with
      | nx => obtain ⟨j, h1, h2⟩ := q; exact while_inv I step n j e2 (by omega) h2
      | ct => obtain ⟨j, h1, h2⟩ := q; exact while_inv I step n j e2 (by omega) h2
      | bk => exact q
      | rt o => exact q
theorem wf_big {n : Nat} (h : n ≤ 1000000) : n < wf := Nat.lt_of_le_of_lt h (by decide)
theorem sA_len {ps : List Opd} : biArgs .len ps = seeAll ps := biArgs_see rfl
theorem sA_int {ps : List Opd} : biArgs .int ps = seeAll ps := biArgs_see rfl
theorem sA_repr {ps : List Opd} : biArgs .repr ps = seeAll ps := biArgs_see rfl
theorem idx_data {ds : List PyData} {i : Nat} {x : PyData} (h : ds[i]? = some x) : idxD (.list ds) (.int (i : Int)) = some x := by
  obtain ⟨l, rfl⟩ := List.getElem?_eq_some_iff.mp h
  show item ds (i : Int) = _
  unfold item
  rw [place_nat l]
  exact h
theorem idx_tup {ds : List PyData} {i : Nat} {x : PyData} (h : ds[i]? = some x) : idxD (.tuple ds) (.int (i : Int)) = some x := idx_data (ds := ds) h
theorem pickD_ok {G : Nat → Option Fn} (h0 : G i_law_draw = some f_law_draw) (hG : G i_law_pick = some f_law_pick) {cs : List Int} {m t : Int} (hl : cs.length ≤ 63) (row : List PyData) (hr : 0 < row.length) (hr2 : row.length ≤ 1000) {n : Nat} (hn : 2 ≤ n) :
    ∃ x cs' m' t', callN G n i_law_pick [dk cs m t, .fz (.list row)] = .ok (.fz x) (some (dk cs' m' t')) ∧ x ∈ row ∧ cs'.length ≤ 63 := by
  obtain ⟨n, rfl⟩ : ∃ m, n = m + 2 := ⟨n - 2, by omega⟩
  obtain ⟨r, cs', m', t', hd, r0, r1, hc⟩ := draw h0 (m := m) (t := t) (many := (row.length : Int)) (by omega) (log_small hr hr2) hl n
  obtain ⟨j, rfl⟩ : ∃ j : Nat, r = j := ⟨r.toNat, by omega⟩
  have hj : j < row.length := by omega
  refine ⟨row[j], cs', m', t', ?_, List.getElem_mem hj, hc⟩
  refine call_wp hG rfl ?_
  have m0 := muS h0
  have hi : idxD (.list row) (.int (j : Int)) = some row[j] := idx_data (List.getElem?_eq_getElem hj)
  clear r0 r1
  generalize hL : ((row.length : Nat) : Int) = Lr at hd
  generalize ((j : Nat) : Int) = J at hd hi
  simp only [f_law_pick, bind_bnd, wp_bnd, wp_ret, wp_bad, ev_var, ev_lit, ev_bin, ev_neg, ev_cmp, ev_and, ev_or, ev_not, ev_ite, ev_tup, ev_lst, ev_idx, ev_slc, ev_call, ev_kcall, ev_bi, ev_comp, ev_meth, evs_nil, evs_cons, evo_nil, evo_cons, evc_nil, evc_cons, evi_of, evi_rng, evi_enm, evi_zip, evi_rvs, exs_nil, exs_cons, ex_expr, ex_set, ex_unp, ex_par, ex_put, ex_ite, ex_whl, ex_fr, ex_rt, stores_nil, stores_var, opd_tmp, opd_at, val_tmp, val_atE, valD_def, see_fz, see_at, keep_fz, keep_at, give_fz, give_at, slotAt_def, varK_fz, varK_lst, idxK_fz, idxK_at, nodeK_fz, nodeK_lst, kidK_fz, kidK_lst, seeAll_nil, seeAll_cons, keepAll_nil, keepAll_cons, giveAll_nil, giveAll_cons, leave_tmp, leave_at, isLst_at, isAt_at, putAt_at, tgs_var, forL_nil, forL_cons, calling_none, calling_some, lend_noneE, lend_zero, lend_succ, lentK_fz, lentK_at, putBack_at, wpS, wpSet, wpOpt, wpIte, wpLeave, test_def, boolK_t, boolK_f, kid0, kid1, kid2, frz_fz, shal_fz, frz_nil, shal_nil, frz_ints, shal_ints, varK_dk, nodeK_dk, getAt_nil, getAt_dk0, setAt_nil, setAt_dk0, putD_dk2, negK_int, notK_bool, cmp_eqI, cmp_neI, cmp_ltI, cmp_leI, cmp_gtI, cmp_geI, cmp_neN, tru_bool, add_int, sub_int, bi_intI, bi_intB, bi_absI, rngK_2, limE, wpBoolK, behind_rt0, behind_rtN, if_true, if_false, Bool.false_eq_true, Bool.not_true, Bool.not_false, Bool.true_eq_false, List.isEmpty_nil, List.isEmpty_cons, decide_true, decide_false, List.isEmpty, Nat.zero_le, decide_eq_true_eq, List.getElem?_cons_zero, List.getElem?_cons_succ, List.set_cons_zero, List.set_cons_succ, List.length_cons, List.length_nil, List.map_cons, List.map_nil, List.cons_append, List.nil_append, List.replicate, Nat.reduceAdd, Nat.reduceSub, Nat.reduceLT, Nat.reduceLeDiff, true_and, and_true, m0, calling_some, lend_zero, lentK_at, sA_len, bi_lenL, hL, hd, getElem0, putBack_at, hi]
theorem bi_lisL {ds : List PyData} : biD .list [.list ds] = some (fzs ds) := rfl
theorem erase_map {α β : Type} (f : α → β) : ∀ (l : List α) (j : Nat), (l.map f).eraseIdx j = (l.eraseIdx j).map f
  | [], _ => rfl
  | x :: l, 0 => rfl
  | x :: l, j + 1 => by
    show f x :: (l.map f).eraseIdx j = f x :: (l.eraseIdx j).map f
    rw [erase_map f l j]
theorem erase_perm {α : Type} : ∀ (l : List α) (j : Nat) (h : j < l.length), (l[j] :: l.eraseIdx j).Perm l
  | x :: l, 0, _ => List.Perm.refl _
  | x :: l, j + 1, h => by
    have ih := erase_perm l j (by simpa using h)
    exact (List.Perm.swap x _ _).trans (List.Perm.cons x ih)
theorem popAt_ints {l : List Int} {j : Nat} {J : Int} (hJ : J = j) (h : j < l.length) (hb : l.length ≤ 1000) : methD .popAt (.lst ((intsL l).map .fz)) [.int J] = some (.int l[j], .lst ((intsL (l.eraseIdx j)).map .fz)) := by
  have h1 : -(2 ^ 63) ≤ J := by omega
  have h2 : J < 2 ^ 63 := by omega
  have h3 : ((intsL l).map OD.fz).length = l.length := by rw [List.length_map, len_ints]
  have h4 : ((intsL l).map OD.fz)[j]? = some (.fz (.int l[j])) := by
    unfold intsL
    rw [List.getElem?_map, List.getElem?_map, List.getElem?_eq_getElem h]; rfl
  show (if -(2 ^ 63) ≤ J ∧ J < 2 ^ 63 then (place ((intsL l).map OD.fz).length J).bind fun j => (((intsL l).map OD.fz)[j]?).bind fun p => (isFz p).map fun d => (d, OD.lst (((intsL l).map OD.fz).eraseIdx j)) else none) = _
  rw [if_pos ⟨h1, h2⟩, h3, hJ, place_nat h]
  show (((intsL l).map OD.fz)[j]?).bind _ = _
  rw [h4]
  show some (PyData.int l[j], OD.lst (((intsL l).map OD.fz).eraseIdx j)) = _
  unfold intsL
  rw [erase_map, erase_map]
theorem mixed_ok {G : Nat → Option Fn} (h0 : G i_law_draw = some f_law_draw) (hG : G i_law_mixed = some f_law_mixed) {cs : List Int} {m t : Int} (hl : cs.length ≤ 63) (row : List Int) (hr : row.length ≤ 1000) {n : Nat} (hn : 2 ≤ n) :
    ∃ out cs' m' t', callN G n i_law_mixed [dk cs m t, .fz (.list (intsL row))] = .ok (.lst ((intsL out).map .fz)) (some (dk cs' m' t')) ∧ out.Perm row ∧ cs'.length ≤ 63 := by
  obtain ⟨n, rfl⟩ : ∃ m, n = m + 2 := ⟨n - 2, by omega⟩
  have m0 := muS h0
  have key : wp (exs (fun g => (G g).bind fun x => x.mu) (callN G (n + 1)) f_law_mixed.body) [some (dk cs m t), some (.fz (.list (intsL row))), none, none] fun f e' => ∃ out cs' m' t', behind f_law_mixed (.ok f e') = .ok (.lst ((intsL out).map .fz)) (some (dk cs' m' t')) ∧ out.Perm row ∧ cs'.length ≤ 63 := by
    simp only [f_law_mixed, bind_bnd, wp_bnd, wp_ret, wp_bad, ev_var, ev_lit, ev_bin, ev_neg, ev_cmp, ev_and, ev_or, ev_not, ev_ite, ev_tup, ev_lst, ev_idx, ev_slc, ev_call, ev_kcall, ev_bi, ev_comp, ev_meth, evs_nil, evs_cons, evo_nil, evo_cons, evc_nil, evc_cons, evi_of, evi_rng, evi_enm, evi_zip, evi_rvs, exs_nil, exs_cons, ex_expr, ex_set, ex_unp, ex_par, ex_put, ex_ite, ex_whl, ex_fr, ex_rt, stores_nil, stores_var, opd_tmp, opd_at, val_tmp, val_atE, valD_def, see_fz, see_at, keep_fz, keep_at, give_fz, give_at, slotAt_def, varK_fz, varK_lst, idxK_fz, idxK_at, nodeK_fz, nodeK_lst, kidK_fz, kidK_lst, seeAll_nil, seeAll_cons, keepAll_nil, keepAll_cons, giveAll_nil, giveAll_cons, leave_tmp, leave_at, isLst_at, isAt_at, putAt_at, tgs_var, forL_nil, forL_cons, calling_none, calling_some, lend_noneE, lend_zero, lend_succ, lentK_fz, lentK_at, putBack_at, wpS, wpSet, wpOpt, wpIte, wpLeave, test_def, boolK_t, boolK_f, kid0, kid1, kid2, frz_fz, shal_fz, frz_nil, shal_nil, frz_ints, shal_ints, varK_dk, nodeK_dk, getAt_nil, getAt_dk0, setAt_nil, setAt_dk0, putD_dk2, negK_int, notK_bool, cmp_eqI, cmp_neI, cmp_ltI, cmp_leI, cmp_gtI, cmp_geI, cmp_neN, tru_bool, add_int, sub_int, bi_intI, bi_intB, bi_absI, rngK_2, limE, wpBoolK, behind_rt0, behind_rtN, if_true, if_false, Bool.false_eq_true, Bool.not_true, Bool.not_false, Bool.true_eq_false, List.isEmpty_nil, List.isEmpty_cons, decide_true, decide_false, List.isEmpty, Nat.zero_le, decide_eq_true_eq, List.getElem?_cons_zero, List.getElem?_cons_succ, List.set_cons_zero, List.set_cons_succ, List.length_cons, List.length_nil, List.map_cons, List.map_nil, List.cons_append, List.nil_append, List.replicate, Nat.reduceAdd, Nat.reduceSub, Nat.reduceLT, Nat.reduceLeDiff, true_and, and_true, kA_list, bi_lisL]
    refine while_inv (fun k e => ∃ left out c m t, left.length = k ∧ (out ++ left).Perm row ∧ c.length ≤ 63 ∧ e = [some (dk c m t), some (.fz (.list (intsL row))), some (.lst ((intsL left).map .fz)), some (.lst ((intsL out).map .fz))]) (fun k e h => ?_) wf row.length _ (wf_big (by omega)) ⟨row, [], cs, m, t, rfl, List.Perm.refl _, hl, rfl⟩
    obtain ⟨left, out, c, m, t, rfl, hp, hc, rfl⟩ := h
    have hlen := hp.length_eq
    rw [List.length_append] at hlen
    simp only [bind_bnd, wp_bnd, wp_ret, wp_bad, ev_var, ev_lit, ev_bin, ev_neg, ev_cmp, ev_and, ev_or, ev_not, ev_ite, ev_tup, ev_lst, ev_idx, ev_slc, ev_call, ev_kcall, ev_bi, ev_comp, ev_meth, evs_nil, evs_cons, evo_nil, evo_cons, evc_nil, evc_cons, evi_of, evi_rng, evi_enm, evi_zip, evi_rvs, exs_nil, exs_cons, ex_expr, ex_set, ex_unp, ex_par, ex_put, ex_ite, ex_whl, ex_fr, ex_rt, stores_nil, stores_var, opd_tmp, opd_at, val_tmp, val_atE, valD_def, see_fz, see_at, keep_fz, keep_at, give_fz, give_at, slotAt_def, varK_fz, varK_lst, idxK_fz, idxK_at, nodeK_fz, nodeK_lst, kidK_fz, kidK_lst, seeAll_nil, seeAll_cons, keepAll_nil, keepAll_cons, giveAll_nil, giveAll_cons, leave_tmp, leave_at, isLst_at, isAt_at, putAt_at, tgs_var, forL_nil, forL_cons, calling_none, calling_some, lend_noneE, lend_zero, lend_succ, lentK_fz, lentK_at, putBack_at, wpS, wpSet, wpOpt, wpIte, wpLeave, test_def, boolK_t, boolK_f, kid0, kid1, kid2, frz_fz, shal_fz, frz_nil, shal_nil, frz_ints, shal_ints, varK_dk, nodeK_dk, getAt_nil, getAt_dk0, setAt_nil, setAt_dk0, putD_dk2, negK_int, notK_bool, cmp_eqI, cmp_neI, cmp_ltI, cmp_leI, cmp_gtI, cmp_geI, cmp_neN, tru_bool, add_int, sub_int, bi_intI, bi_intB, bi_absI, rngK_2, limE, wpBoolK, behind_rt0, behind_rtN, if_true, if_false, Bool.false_eq_true, Bool.not_true, Bool.not_false, Bool.true_eq_false, List.isEmpty_nil, List.isEmpty_cons, decide_true, decide_false, List.isEmpty, Nat.zero_le, decide_eq_true_eq, List.getElem?_cons_zero, List.getElem?_cons_succ, List.set_cons_zero, List.set_cons_succ, List.length_cons, List.length_nil, List.map_cons, List.map_nil, List.cons_append, List.nil_append, List.replicate, Nat.reduceAdd, Nat.reduceSub, Nat.reduceLT, Nat.reduceLeDiff, true_and, and_true, varK_ints, getAt_ints]
    cases left with
    | nil =>
      simp only [bind_bnd, wp_bnd, wp_ret, wp_bad, ev_var, ev_lit, ev_bin, ev_neg, ev_cmp, ev_and, ev_or, ev_not, ev_ite, ev_tup, ev_lst, ev_idx, ev_slc, ev_call, ev_kcall, ev_bi, ev_comp, ev_meth, evs_nil, evs_cons, evo_nil, evo_cons, evc_nil, evc_cons, evi_of, evi_rng, evi_enm, evi_zip, evi_rvs, exs_nil, exs_cons, ex_expr, ex_set, ex_unp, ex_par, ex_put, ex_ite, ex_whl, ex_fr, ex_rt, stores_nil, stores_var, opd_tmp, opd_at, val_tmp, val_atE, valD_def, see_fz, see_at, keep_fz, keep_at, give_fz, give_at, slotAt_def, varK_fz, varK_lst, idxK_fz, idxK_at, nodeK_fz, nodeK_lst, kidK_fz, kidK_lst, seeAll_nil, seeAll_cons, keepAll_nil, keepAll_cons, giveAll_nil, giveAll_cons, leave_tmp, leave_at, isLst_at, isAt_at, putAt_at, tgs_var, forL_nil, forL_cons, calling_none, calling_some, lend_noneE, lend_zero, lend_succ, lentK_fz, lentK_at, putBack_at, wpS, wpSet, wpOpt, wpIte, wpLeave, test_def, boolK_t, boolK_f, kid0, kid1, kid2, frz_fz, shal_fz, frz_nil, shal_nil, frz_ints, shal_ints, varK_dk, nodeK_dk, getAt_nil, getAt_dk0, setAt_nil, setAt_dk0, putD_dk2, negK_int, notK_bool, cmp_eqI, cmp_neI, cmp_ltI, cmp_leI, cmp_gtI, cmp_geI, cmp_neN, tru_bool, add_int, sub_int, bi_intI, bi_intB, bi_absI, rngK_2, limE, wpBoolK, behind_rt0, behind_rtN, if_true, if_false, Bool.false_eq_true, Bool.not_true, Bool.not_false, Bool.true_eq_false, List.isEmpty_nil, List.isEmpty_cons, decide_true, decide_false, List.isEmpty, Nat.zero_le, decide_eq_true_eq, List.getElem?_cons_zero, List.getElem?_cons_succ, List.set_cons_zero, List.set_cons_succ, List.length_cons, List.length_nil, List.map_cons, List.map_nil, List.cons_append, List.nil_append, List.replicate, Nat.reduceAdd, Nat.reduceSub, Nat.reduceLT, Nat.reduceLeDiff, true_and, and_true, varK_ints]
      refine ⟨out, c, m, t, rfl, by simpa using hp, hc⟩
    | cons y left =>
      obtain ⟨r, c', m', t', hd, r0, r1, hc'⟩ := draw h0 (m := m) (t := t) (many := ((y :: left).length : Int)) (by simp) (log_small (by simp) (by omega)) hc n
      obtain ⟨j, hj⟩ : ∃ j : Nat, r = j := ⟨r.toNat, by omega⟩
      have hjl : j < (y :: left).length := by omega
      have hpop := popAt_ints hj hjl (by omega)
      have hL : ((intsL (y :: left)).length : Int) = ((y :: left).length : Int) := by rw [len_ints]
      have happ := app_ints (cs := out) (x := (y :: left)[j]) (by simp at hlen; omega)
      have hpm := erase_perm _ _ hjl
      have hl2 : ((y :: left).eraseIdx j).length < (y :: left).length := by rw [List.length_eraseIdx_of_lt hjl]; simp
      generalize (((y :: left).length : Nat) : Int) = Lf at hd hL
      clear r0 r1 hj
      generalize (y :: left)[j] = z at *
      generalize (y :: left).eraseIdx j = lf' at *
      simp only [bind_bnd, wp_bnd, wp_ret, wp_bad, ev_var, ev_lit, ev_bin, ev_neg, ev_cmp, ev_and, ev_or, ev_not, ev_ite, ev_tup, ev_lst, ev_idx, ev_slc, ev_call, ev_kcall, ev_bi, ev_comp, ev_meth, evs_nil, evs_cons, evo_nil, evo_cons, evc_nil, evc_cons, evi_of, evi_rng, evi_enm, evi_zip, evi_rvs, exs_nil, exs_cons, ex_expr, ex_set, ex_unp, ex_par, ex_put, ex_ite, ex_whl, ex_fr, ex_rt, stores_nil, stores_var, opd_tmp, opd_at, val_tmp, val_atE, valD_def, see_fz, see_at, keep_fz, keep_at, give_fz, give_at, slotAt_def, varK_fz, varK_lst, idxK_fz, idxK_at, nodeK_fz, nodeK_lst, kidK_fz, kidK_lst, seeAll_nil, seeAll_cons, keepAll_nil, keepAll_cons, giveAll_nil, giveAll_cons, leave_tmp, leave_at, isLst_at, isAt_at, putAt_at, tgs_var, forL_nil, forL_cons, calling_none, calling_some, lend_noneE, lend_zero, lend_succ, lentK_fz, lentK_at, putBack_at, wpS, wpSet, wpOpt, wpIte, wpLeave, test_def, boolK_t, boolK_f, kid0, kid1, kid2, frz_fz, shal_fz, frz_nil, shal_nil, frz_ints, shal_ints, varK_dk, nodeK_dk, getAt_nil, getAt_dk0, setAt_nil, setAt_dk0, putD_dk2, negK_int, notK_bool, cmp_eqI, cmp_neI, cmp_ltI, cmp_leI, cmp_gtI, cmp_geI, cmp_neN, tru_bool, add_int, sub_int, bi_intI, bi_intB, bi_absI, rngK_2, limE, wpBoolK, behind_rt0, behind_rtN, if_true, if_false, Bool.false_eq_true, Bool.not_true, Bool.not_false, Bool.true_eq_false, List.isEmpty_nil, List.isEmpty_cons, decide_true, decide_false, List.isEmpty, Nat.zero_le, decide_eq_true_eq, List.getElem?_cons_zero, List.getElem?_cons_succ, List.set_cons_zero, List.set_cons_succ, List.length_cons, List.length_nil, List.map_cons, List.map_nil, List.cons_append, List.nil_append, List.replicate, Nat.reduceAdd, Nat.reduceSub, Nat.reduceLT, Nat.reduceLeDiff, true_and, and_true, varK_ints, getAt_ints, sA_len, bi_lenL, hL, m0, calling_some, lend_zero, lentK_at, hd, getElem0, putBack_at, hpop, happ]
      exact ⟨lf'.length, hl2, lf', out ++ [z], c', m', t', rfl, by
        rw [List.append_assoc]
        exact (List.Perm.append_left out hpm).trans hp, hc', rfl⟩
  obtain ⟨f, e', z, out, cs', m', t', p1, p2, p3⟩ := wp_ok key
  refine ⟨out, cs', m', t', ?_, p2, p3⟩
  rw [call_fn hG rfl, ← p1]
  exact congrArg (behind f_law_mixed) z
end HW
end

section
set_option linter.all false
set_option maxHeartbeats 4000000
set_option maxRecDepth 4000
/-! # Plain: deeds -/
namespace HW
open PySem PyProof.Rows PySem.W
inductive Deed where
  | xor (i j : Nat)
  | and (i j k : Nat)
  | add (i j : Nat)
  | one (i : Nat)
abbrev sXor : Str := Str.ofString "xor"
abbrev sAnd : Str := Str.ofString "and"
abbrev sAdd : Str := Str.ofString "add"
abbrev sOne : Str := Str.ofString "one"
def Deed.data : Deed → PyData
  | .xor i j => .tuple [.str sXor, .int i, .int j]
  | .and i j k => .tuple [.str sAnd, .int i, .int j, .int k]
  | .add i j => .tuple [.str sAdd, .int i, .int j]
  | .one i => .tuple [.str sOne, .int i]
def Deed.word : Deed → Str
  | .xor _ _ => sXor
  | .and _ _ _ => sAnd
  | .add _ _ => sAdd
  | .one _ => sOne
def Deed.ok (n : Nat) : Deed → Prop
  | .xor i j => i < n ∧ j < n ∧ i ≠ j
  | .and i j k => i < n ∧ j < n ∧ k < n ∧ i ≠ j ∧ i ≠ k
  | .add i j => i < n ∧ j < n ∧ i ≠ j
  | .one i => i < n
theorem cmp_eqS {x y : Str} : cmpD .eq (.str x) (.str y) = some (decide (x = y)) := rfl
theorem lrg_0 {n : Nat} {N : Int} (hN : N = n) (h : n ≤ 1000) : lrgD false (.int 0) (.int N) = some (fzs (intsL ((List.range n).map fun (k : Nat) => (k : Int)))) := by
  have h1 : rngOk 0 = true := by decide
  have h2 : rngOk N = true := by rw [hN]; exact rngOk_nat (by omega)
  have h3 : (N - 0).toNat = n := by omega
  have h4 : decide (n ≤ lim) = true := decide_eq_true (lim_big h)
  show (if (rngOk 0 && (rngOk N && decide ((N - 0).toNat ≤ lim))) = true then some (if false then OD.fz (.tuple (rngL 0 (N - 0).toNat 1)) else fzs (rngL 0 (N - 0).toNat 1)) else none) = _
  rw [h1, h2, h3, h4, rngL_nat]; rfl
theorem ev_lrg {mus : Nat → Option Nat} {c : CallF} {t : Bool} {a : E} : ev mus c (.lrg t a) = bnd (bnd (ev mus c a) opd) fun p => bnd (see p) fun x => bnd (opt (lrgD t (.int 0) x)) fun z => ret (.tmp z) := rfl
theorem min_two {a b : Int} : biD .minL [.list (intsL [a, b])] = some (.fz (.int (if b < a then b else a))) := rfl
theorem max_two {a b : Int} : ∃ c, biD .maxL [.list (intsL [a, b])] = some (.fz (.int c)) ∧ (c = a ∨ c = b) := ⟨if a < b then b else a, rfl, by
  by_cases h : a < b
  · rw [if_pos h]; exact .inr rfl
  · rw [if_neg h]; exact .inl rfl⟩
theorem kid_ints {cs : List Int} {i : Nat} {x I : Int} (hI : I = i) (h : cs[i]? = some x) : kid (.lst ((intsL cs).map .fz)) (.int I) = some (.fz (.int x)) := by
  obtain ⟨l, e⟩ := List.getElem?_eq_some_iff.mp h
  show item ((intsL cs).map OD.fz) I = _
  unfold item
  rw [hI, place_nat (by rw [List.length_map, len_ints]; exact l)]
  show ((intsL cs).map OD.fz)[i]? = _
  unfold intsL
  rw [List.getElem?_map, List.getElem?_map, h]; rfl
theorem cut13 {a b c : PyData} {r : List PyData} : cut (a :: b :: c :: r) (some 1) (some 3) = [b, c] := by
  show ((a :: b :: c :: r).drop (min (1 : Int).toNat (r.length + 1 + 1 + 1))).take (min (3 : Int).toNat (r.length + 1 + 1 + 1) - min (1 : Int).toNat (r.length + 1 + 1 + 1)) = [b, c]
  have e1 : (1 : Int).toNat = 1 := rfl
  have e3 : (3 : Int).toNat = 3 := rfl
  rw [e1, e3, Nat.min_eq_left (by omega), Nat.min_eq_left (by omega)]
  rfl
theorem sA_minL {ps : List Opd} : biArgs .minL ps = seeAll ps := biArgs_see rfl
theorem sA_maxL {ps : List Opd} : biArgs .maxL ps = seeAll ps := biArgs_see rfl
theorem deed_ok {G : Nat → Option Fn} (h0 : G i_law_draw = some f_law_draw) (h1 : G i_law_pick = some f_law_pick) (h2 : G i_law_mixed = some f_law_mixed) (hG : G i_law_deed = some f_law_deed) {cs : List Int} {m t : Int} (hl : cs.length ≤ 63) (k : Nat) {N : Int} (hN : N = k) (hk : 3 ≤ k) (hk2 : k ≤ 1000) (ws : List Str) (hw : ∀ x ∈ ws, x = sXor ∨ x = sAnd ∨ x = sAdd ∨ x = sOne) (hw0 : 0 < ws.length) (hw1 : ws.length ≤ 1000) {n : Nat} (hn : 3 ≤ n) :
    ∃ d cs' m' t', callN G n i_law_deed [dk cs m t, .fz (.int N), .fz (.list (ws.map .str))] = .ok (.fz (Deed.data d)) (some (dk cs' m' t')) ∧ d.ok k ∧ d.word ∈ ws ∧ cs'.length ≤ 63 := by
  obtain ⟨n, rfl⟩ : ∃ m, n = m + 2 := ⟨n - 2, by omega⟩
  have m1 := muS h1
  have m2 := muS h2
  obtain ⟨x, c1, m3, t1, q1, hx, hc1⟩ := pickD_ok h0 h1 (m := m) (t := t) hl (ws.map .str) (by simpa using hw0) (by simpa using hw1) (n := n + 1) (by omega)
  obtain ⟨w, hwm, rfl⟩ := List.mem_map.mp hx
  obtain ⟨out, c2, m4, t2, q2, hp, hc2⟩ := mixed_ok h0 h2 (m := m3) (t := t1) hc1 ((List.range k).map fun (k : Nat) => (k : Int)) (by simpa using hk2) (n := n + 1) (by omega)
  have hlr := lrg_0 hN hk2
  have hlen := hp.length_eq
  rw [List.length_map, List.length_range] at hlen
  have hnd : out.Nodup := hp.nodup_iff.mpr (by
    rw [List.nodup_iff_pairwise_ne, List.pairwise_map]
    exact (List.nodup_iff_pairwise_ne.mp List.nodup_range).imp (by intro a b h; omega))
  have hmem : ∀ y ∈ out, ∃ i : Nat, y = i ∧ i < k := fun y hy => by
    obtain ⟨i, hi, rfl⟩ := List.mem_map.mp (hp.mem_iff.mp hy)
    exact ⟨i, rfl, List.mem_range.mp hi⟩
  rcases out with _ | ⟨a, _ | ⟨b, _ | ⟨c, r⟩⟩⟩
  · simp at hlen; omega
  · simp at hlen; omega
  · simp at hlen; omega
  obtain ⟨i, hi, ik⟩ := hmem a (by simp)
  obtain ⟨j, hj, jk⟩ := hmem b (by simp)
  obtain ⟨l, hl', lk⟩ := hmem c (by simp)
  have hab : a ≠ b := by simp at hnd; exact fun z => hnd.1.1 z
  have hac : a ≠ c := by simp at hnd; exact fun z => hnd.1.2.1 z
  obtain ⟨mx, hmx, hmx2⟩ := max_two (a := b) (b := c)
  have hmn := min_two (a := b) (b := c)
  have hmn2 : (if c < b then c else b) = b ∨ (if c < b then c else b) = c := by
    by_cases h : c < b
    · rw [if_pos h]; exact .inr rfl
    · rw [if_neg h]; exact .inl rfl
  generalize (if c < b then c else b) = mn at hmn hmn2
  have hcut := cut13 (a := .int a) (b := .int b) (c := .int c) (r := intsL r)
  have i0 : kid (.lst ((intsL (a :: b :: c :: r)).map .fz)) (.int 0) = some (.fz (.int a)) := kid_ints (i := 0) rfl rfl
  have i1 : kid (.lst ((intsL (a :: b :: c :: r)).map .fz)) (.int 1) = some (.fz (.int b)) := kid_ints (i := 1) rfl rfl
  have hsh : shal (.lst ((intsL (a :: b :: c :: r)).map .fz)) = some (.list (.int a :: .int b :: .int c :: intsL r)) := shal_ints
  have hcase : ∃ d : Deed, d.ok k ∧ d.word = w ∧ (w = sOne ∧ d.data = .tuple [.str sOne, .int a] ∨ w ≠ sOne ∧ w = sAnd ∧ d.data = .tuple [.str sAnd, .int a, .int mn, .int mx] ∨ w ≠ sOne ∧ w ≠ sAnd ∧ d.data = .tuple [.str w, .int a, .int b]) := by
    have d1 : sOne ≠ sAnd := by decide
    have d2 : sXor ≠ sOne ∧ sXor ≠ sAnd := by decide
    have d3 : sAdd ≠ sOne ∧ sAdd ≠ sAnd := by decide
    rcases hw w hwm with rfl | rfl | rfl | rfl
    · exact ⟨.xor i j, ⟨ik, jk, fun z => hab (by rw [hi, hj, z])⟩, rfl, .inr (.inr ⟨d2.1, d2.2, by rw [hi, hj]; rfl⟩)⟩
    · obtain ⟨p, hp1, hp2, hp3⟩ : ∃ p : Nat, mn = p ∧ p < k ∧ i ≠ p := by
        rcases hmn2 with z | z
        · exact ⟨j, by rw [z, hj], jk, fun y => hab (by rw [hi, hj, y])⟩
        · exact ⟨l, by rw [z, hl'], lk, fun y => hac (by rw [hi, hl', y])⟩
      obtain ⟨q, hq1, hq2, hq3⟩ : ∃ p : Nat, mx = p ∧ p < k ∧ i ≠ p := by
        rcases hmx2 with z | z
        · exact ⟨j, by rw [z, hj], jk, fun y => hab (by rw [hi, hj, y])⟩
        · exact ⟨l, by rw [z, hl'], lk, fun y => hac (by rw [hi, hl', y])⟩
      exact ⟨.and i p q, ⟨ik, hp2, hq2, hp3, hq3⟩, rfl, .inr (.inl ⟨d1.symm, rfl, by rw [hi, hp1, hq1]; rfl⟩)⟩
    · exact ⟨.add i j, ⟨ik, jk, fun z => hab (by rw [hi, hj, z])⟩, rfl, .inr (.inr ⟨d3.1, d3.2, by rw [hi, hj]; rfl⟩)⟩
    · exact ⟨.one i, ik, rfl, .inl ⟨rfl, by rw [hi]; rfl⟩⟩
  obtain ⟨d, dok, dw, hd⟩ := hcase
  refine ⟨d, c2, m4, t2, ?_, dok, by rw [dw]; exact hwm, hc2⟩
  have hin : intsL [b, c] = [.int b, .int c] := rfl
  rw [hin] at hmn hmx
  refine call_wp hG rfl ?_
  have q1' : callN G (n + 1) i_law_pick [dk cs m t, .fz (.list (ws.map .str))] = .ok (.fz (.str w)) (some (dk c1 m3 t1)) := q1
  have lm : ∀ k : Nat, k ≤ 1000 → k ≤ lim := fun k h => lim_big h
  clear hN hi hj hl' hmem hw hab hac hmn2 hmx2 hnd hp
  rcases hd with ⟨rfl, hd⟩ | ⟨g1, rfl, hd⟩ | ⟨g1, g2, hd⟩
  · rw [hd]
    simp only [f_law_deed, bind_bnd, wp_bnd, wp_ret, wp_bad, ev_var, ev_lit, ev_bin, ev_neg, ev_cmp, ev_and, ev_or, ev_not, ev_ite, ev_tup, ev_lst, ev_idx, ev_slc, ev_call, ev_kcall, ev_bi, ev_comp, ev_meth, evs_nil, evs_cons, evo_nil, evo_cons, evc_nil, evc_cons, evi_of, evi_rng, evi_enm, evi_zip, evi_rvs, exs_nil, exs_cons, ex_expr, ex_set, ex_unp, ex_par, ex_put, ex_ite, ex_whl, ex_fr, ex_rt, stores_nil, stores_var, opd_tmp, opd_at, val_tmp, val_atE, valD_def, see_fz, see_at, keep_fz, keep_at, give_fz, give_at, slotAt_def, varK_fz, varK_lst, idxK_fz, idxK_at, nodeK_fz, nodeK_lst, kidK_fz, kidK_lst, seeAll_nil, seeAll_cons, keepAll_nil, keepAll_cons, giveAll_nil, giveAll_cons, leave_tmp, leave_at, isLst_at, isAt_at, putAt_at, tgs_var, forL_nil, forL_cons, calling_none, calling_some, lend_noneE, lend_zero, lend_succ, lentK_fz, lentK_at, putBack_at, wpS, wpSet, wpOpt, wpIte, wpLeave, test_def, boolK_t, boolK_f, kid0, kid1, kid2, frz_fz, shal_fz, frz_nil, shal_nil, frz_ints, shal_ints, varK_dk, nodeK_dk, getAt_nil, getAt_dk0, setAt_nil, setAt_dk0, putD_dk2, negK_int, notK_bool, cmp_eqI, cmp_neI, cmp_ltI, cmp_leI, cmp_gtI, cmp_geI, cmp_neN, tru_bool, add_int, sub_int, bi_intI, bi_intB, bi_absI, rngK_2, limE, wpBoolK, behind_rt0, behind_rtN, if_true, if_false, Bool.false_eq_true, Bool.not_true, Bool.not_false, Bool.true_eq_false, List.isEmpty_nil, List.isEmpty_cons, decide_true, decide_false, List.isEmpty, Nat.zero_le, decide_eq_true_eq, List.getElem?_cons_zero, List.getElem?_cons_succ, List.set_cons_zero, List.set_cons_succ, List.length_cons, List.length_nil, List.map_cons, List.map_nil, List.cons_append, List.nil_append, List.replicate, Nat.reduceAdd, Nat.reduceSub, Nat.reduceLT, Nat.reduceLeDiff, true_and, and_true, m1, m2, calling_some, lend_zero, lentK_at, q1', getElem0, putBack_at, hlr, ev_lrg, frz_fzs', q2, cmp_eqS, varK_ints, i0, nodeK_lst, kidK_fz, List.length_cons, List.length_nil, lm 2 (by decide)]
  · rw [hd]
    have e1 : (sAnd = sOne) = False := eq_false g1
    simp only [f_law_deed, bind_bnd, wp_bnd, wp_ret, wp_bad, ev_var, ev_lit, ev_bin, ev_neg, ev_cmp, ev_and, ev_or, ev_not, ev_ite, ev_tup, ev_lst, ev_idx, ev_slc, ev_call, ev_kcall, ev_bi, ev_comp, ev_meth, evs_nil, evs_cons, evo_nil, evo_cons, evc_nil, evc_cons, evi_of, evi_rng, evi_enm, evi_zip, evi_rvs, exs_nil, exs_cons, ex_expr, ex_set, ex_unp, ex_par, ex_put, ex_ite, ex_whl, ex_fr, ex_rt, stores_nil, stores_var, opd_tmp, opd_at, val_tmp, val_atE, valD_def, see_fz, see_at, keep_fz, keep_at, give_fz, give_at, slotAt_def, varK_fz, varK_lst, idxK_fz, idxK_at, nodeK_fz, nodeK_lst, kidK_fz, kidK_lst, seeAll_nil, seeAll_cons, keepAll_nil, keepAll_cons, giveAll_nil, giveAll_cons, leave_tmp, leave_at, isLst_at, isAt_at, putAt_at, tgs_var, forL_nil, forL_cons, calling_none, calling_some, lend_noneE, lend_zero, lend_succ, lentK_fz, lentK_at, putBack_at, wpS, wpSet, wpOpt, wpIte, wpLeave, test_def, boolK_t, boolK_f, kid0, kid1, kid2, frz_fz, shal_fz, frz_nil, shal_nil, frz_ints, shal_ints, varK_dk, nodeK_dk, getAt_nil, getAt_dk0, setAt_nil, setAt_dk0, putD_dk2, negK_int, notK_bool, cmp_eqI, cmp_neI, cmp_ltI, cmp_leI, cmp_gtI, cmp_geI, cmp_neN, tru_bool, add_int, sub_int, bi_intI, bi_intB, bi_absI, rngK_2, limE, wpBoolK, behind_rt0, behind_rtN, if_true, if_false, Bool.false_eq_true, Bool.not_true, Bool.not_false, Bool.true_eq_false, List.isEmpty_nil, List.isEmpty_cons, decide_true, decide_false, List.isEmpty, Nat.zero_le, decide_eq_true_eq, List.getElem?_cons_zero, List.getElem?_cons_succ, List.set_cons_zero, List.set_cons_succ, List.length_cons, List.length_nil, List.map_cons, List.map_nil, List.cons_append, List.nil_append, List.replicate, Nat.reduceAdd, Nat.reduceSub, Nat.reduceLT, Nat.reduceLeDiff, true_and, and_true, m1, m2, calling_some, lend_zero, lentK_at, q1', getElem0, putBack_at, hlr, ev_lrg, frz_fzs', q2, cmp_eqS, e1, varK_ints, i0, i1, nodeK_lst, kidK_fz, cutP_def, cutEnds_one, hsh, cutD_list, hcut, sA_minL, sA_maxL, hmn, hmx, List.length_cons, List.length_nil, lm 4 (by decide)]
  · rw [hd]
    have e1 : (w = sOne) = False := eq_false g1
    have e2 : (w = sAnd) = False := eq_false g2
    simp only [f_law_deed, bind_bnd, wp_bnd, wp_ret, wp_bad, ev_var, ev_lit, ev_bin, ev_neg, ev_cmp, ev_and, ev_or, ev_not, ev_ite, ev_tup, ev_lst, ev_idx, ev_slc, ev_call, ev_kcall, ev_bi, ev_comp, ev_meth, evs_nil, evs_cons, evo_nil, evo_cons, evc_nil, evc_cons, evi_of, evi_rng, evi_enm, evi_zip, evi_rvs, exs_nil, exs_cons, ex_expr, ex_set, ex_unp, ex_par, ex_put, ex_ite, ex_whl, ex_fr, ex_rt, stores_nil, stores_var, opd_tmp, opd_at, val_tmp, val_atE, valD_def, see_fz, see_at, keep_fz, keep_at, give_fz, give_at, slotAt_def, varK_fz, varK_lst, idxK_fz, idxK_at, nodeK_fz, nodeK_lst, kidK_fz, kidK_lst, seeAll_nil, seeAll_cons, keepAll_nil, keepAll_cons, giveAll_nil, giveAll_cons, leave_tmp, leave_at, isLst_at, isAt_at, putAt_at, tgs_var, forL_nil, forL_cons, calling_none, calling_some, lend_noneE, lend_zero, lend_succ, lentK_fz, lentK_at, putBack_at, wpS, wpSet, wpOpt, wpIte, wpLeave, test_def, boolK_t, boolK_f, kid0, kid1, kid2, frz_fz, shal_fz, frz_nil, shal_nil, frz_ints, shal_ints, varK_dk, nodeK_dk, getAt_nil, getAt_dk0, setAt_nil, setAt_dk0, putD_dk2, negK_int, notK_bool, cmp_eqI, cmp_neI, cmp_ltI, cmp_leI, cmp_gtI, cmp_geI, cmp_neN, tru_bool, add_int, sub_int, bi_intI, bi_intB, bi_absI, rngK_2, limE, wpBoolK, behind_rt0, behind_rtN, if_true, if_false, Bool.false_eq_true, Bool.not_true, Bool.not_false, Bool.true_eq_false, List.isEmpty_nil, List.isEmpty_cons, decide_true, decide_false, List.isEmpty, Nat.zero_le, decide_eq_true_eq, List.getElem?_cons_zero, List.getElem?_cons_succ, List.set_cons_zero, List.set_cons_succ, List.length_cons, List.length_nil, List.map_cons, List.map_nil, List.cons_append, List.nil_append, List.replicate, Nat.reduceAdd, Nat.reduceSub, Nat.reduceLT, Nat.reduceLeDiff, true_and, and_true, m1, m2, calling_some, lend_zero, lentK_at, q1', getElem0, putBack_at, hlr, ev_lrg, frz_fzs', q2, cmp_eqS, e1, e2, varK_ints, i0, i1, nodeK_lst, kidK_fz, List.length_cons, List.length_nil, lm 3 (by decide)]
end HW
end

section
set_option linter.all false
set_option maxHeartbeats 4000000
set_option maxRecDepth 4000
/-! # Plain: a deed done, undone -/
namespace HW
open PySem PyProof.Rows PySem.W
def Deed.at : Deed → Nat
  | .xor i _ => i
  | .and i _ _ => i
  | .add i _ => i
  | .one i => i
def Deed.val (w : Nat) (s : Int) (ws : List Int) : Deed → Int
  | .xor i j => Builtin.bitXor (ws.getD i 0) (ws.getD j 0)
  | .and i j k => Builtin.bitXor (ws.getD i 0) (Builtin.bitAnd (ws.getD j 0) (ws.getD k 0))
  | .add i j => (ws.getD i 0 + s * ws.getD j 0) % 2 ^ w
  | .one i => (ws.getD i 0 + s * 1) % 2 ^ w
def chg (w : Nat) (s : Int) (ws : List Int) (d : Deed) : List Int := ws.set d.at (d.val w s ws)
theorem chg_len {w : Nat} {s : Int} {ws : List Int} {d : Deed} : (chg w s ws d).length = ws.length := List.length_set
theorem idx_intsT {ws : List Int} {i : Nat} {I : Int} (hI : I = i) (h : i < ws.length) : idxD (.tuple (intsL ws)) (.int I) = some (.int (ws.getD i 0)) := by
  rw [hI]
  refine idx_tup ?_
  unfold intsL
  rw [List.getElem?_map, List.getElem?_eq_getElem h, List.getD_eq_getElem?_getD, List.getElem?_eq_getElem h]; rfl
theorem cutD_tup {ds : List PyData} {l h : Option Int} : cutD (.tuple ds) l h = some (.fz (.tuple (cut ds l h))) := rfl
theorem cut_lo {ws : List Int} {i : Nat} {I : Int} (hI : I = i) (h : i < ws.length) : cut (intsL ws) none (some I) = intsL (ws.take i) := by
  subst hI
  have e : cutAt (intsL ws).length (intsL ws).length (some (i : Int)) = i := by
    show (if (i : Int) < 0 then ((i : Int) + (intsL ws).length).toNat else min (i : Int).toNat (intsL ws).length) = i
    rw [if_neg (by omega), len_ints, Int.toNat_natCast, Nat.min_eq_left (by omega)]
  unfold cut
  rw [e]
  show ((intsL ws).drop 0).take (i - 0) = _
  unfold intsL
  rw [List.drop_zero, Nat.sub_zero, List.map_take]
theorem cut_hi {ws : List Int} {i : Nat} {I : Int} (hI : I = i) (h : i < ws.length) : cut (intsL ws) (some (I + 1)) none = intsL (ws.drop (i + 1)) := by
  subst hI
  have e : cutAt (intsL ws).length 0 (some ((i : Int) + 1)) = i + 1 := by
    show (if (i : Int) + 1 < 0 then ((i : Int) + 1 + (intsL ws).length).toNat else min ((i : Int) + 1).toNat (intsL ws).length) = i + 1
    rw [if_neg (by omega), len_ints, show ((i : Int) + 1).toNat = i + 1 by omega, Nat.min_eq_left (by omega)]
  unfold cut
  rw [e]
  show ((intsL ws).drop (i + 1)).take ((intsL ws).length - (i + 1)) = _
  rw [List.take_of_length_le (by rw [List.length_drop]; omega)]
  unfold intsL
  rw [List.map_drop]
theorem add_ints {a b : List Int} (h : a.length + b.length ≤ 1000) : binD .add (.tuple (intsL a)) (.tuple (intsL b)) = some (.fz (.tuple (intsL (a ++ b)))) := by
  show (if BOp.add = .add ∧ (intsL a).length + (intsL b).length ≤ lim then some (OD.fz (.tuple (intsL a ++ intsL b))) else none) = _
  rw [if_pos ⟨rfl, by rw [len_ints, len_ints]; exact lim_big h⟩]
  unfold intsL
  rw [List.map_append]
theorem set_cut {ws : List Int} {i : Nat} {v : Int} (h : i < ws.length) : (ws.take i ++ [v]) ++ ws.drop (i + 1) = ws.set i v := by
  rw [List.set_eq_take_append_cons_drop, if_pos h, List.append_assoc]; rfl
theorem fresh_ok {ws : List Int} {i : Nat} {I v : Int} (hI : I = i) (h : i < ws.length) (hl : ws.length ≤ 990) : cut (intsL ws) none (some I) = intsL (ws.take i) ∧ cut (intsL ws) (some (I + 1)) none = intsL (ws.drop (i + 1)) ∧ binD .add (.tuple (intsL (ws.take i))) (.tuple [.int v]) = some (.fz (.tuple (intsL (ws.take i ++ [v])))) ∧ binD .add (.tuple (intsL (ws.take i ++ [v]))) (.tuple (intsL (ws.drop (i + 1)))) = some (.fz (.tuple (intsL (ws.set i v)))) := by
  refine ⟨cut_lo hI h, cut_hi hI h, add_ints (a := ws.take i) (b := [v]) (by simp; omega), ?_⟩
  rw [← set_cut h]
  exact add_ints (by simp; omega)
theorem len1 : ([] : List PyData).length + 1 = 1 := rfl
theorem changed_ok {G : Nat → Option Fn} (hG : G i_changed = some f_changed) (w : Nat) {W : Int} (hW : W = w) (hw : w ≤ 1000) (ws : List Int) (hl : ws.length ≤ 990) (d : Deed) (hd : d.ok ws.length) (s : Int) (hs : s = 1 ∨ s = -1) {n : Nat} (hn : 1 ≤ n) :
    callN G n i_changed [.fz (.int W), .fz (.tuple (intsL ws)), .fz d.data, .fz (.int s)] = .ok (.fz (.tuple (intsL (chg w s ws d)))) none := by
  obtain ⟨n, rfl⟩ : ∃ m, n = m + 1 := ⟨n - 1, by omega⟩
  have s1 : binD .shl (.int 1) (.int W) = some (.fz (.int (2 ^ w))) := by rw [hW, shl_int (by decide) (by omega), Int.one_mul]
  have s2 : ∀ y : Int, binD .mod (.int y) (.int (2 ^ w)) = some (.fz (.int (y % 2 ^ w))) := fun y => mod_int (kbt_pos w)
  have s3 : ∀ y : Int, binD .mul (.int s) (.int y) = some (.fz (.int (s * y))) := fun y => mul_int (mulOk_l (by omega) (by omega))
  have e1 : (sXor = sAnd) = False := by simp only [eq_iff_iff, iff_false]; decide
  have e2 : (sAnd = sXor) = False := by simp only [eq_iff_iff, iff_false]; decide
  have e3 : (sAdd = sAnd) = False := by simp only [eq_iff_iff, iff_false]; decide
  have e4 : (sAdd = sXor) = False := by simp only [eq_iff_iff, iff_false]; decide
  have e5 : (sOne = sAnd) = False := by simp only [eq_iff_iff, iff_false]; decide
  have e6 : (sOne = sXor) = False := by simp only [eq_iff_iff, iff_false]; decide
  have e7 : (sOne = sAdd) = False := by simp only [eq_iff_iff, iff_false]; decide
  have lm : 1 ≤ lim := lim_big (by decide)
  have x0 : ∀ a : PyData, ∀ r, idxD (.tuple (a :: r)) (.int 0) = some a := fun a r => idx_tup (i := 0) rfl
  have x1 : ∀ a b : PyData, ∀ r, idxD (.tuple (a :: b :: r)) (.int 1) = some b := fun a b r => idx_tup (i := 1) rfl
  have x2 : ∀ a b c : PyData, ∀ r, idxD (.tuple (a :: b :: c :: r)) (.int 2) = some c := fun a b c r => idx_tup (i := 2) rfl
  have x3 : ∀ a b c d : PyData, ∀ r, idxD (.tuple (a :: b :: c :: d :: r)) (.int 3) = some d := fun a b c d r => idx_tup (i := 3) rfl
  refine call_wp hG rfl ?_
  clear hW
  cases d with
  | xor i j =>
    obtain ⟨h1, h2, h3⟩ := hd
    obtain ⟨I, hI⟩ : ∃ I : Int, I = i := ⟨_, rfl⟩
    obtain ⟨J, hJ⟩ : ∃ I : Int, I = j := ⟨_, rfl⟩
    have a1 := idx_intsT hI h1
    have a2 := idx_intsT hJ h2
    obtain ⟨c1, c2, c3, c4⟩ := fresh_ok (v := (Deed.xor i j).val w s ws) hI h1 hl
    show wp _ [some (.fz (.int W)), some (.fz (.tuple (intsL ws))), some (.fz (.tuple [.str sXor, .int i, .int j])), some (.fz (.int s)), none, none, none] _
    rw [← hI, ← hJ]
    clear hI hJ
    unfold Deed.val at c3 c4
    simp only [f_changed, bind_bnd, wp_bnd, wp_ret, wp_bad, ev_var, ev_lit, ev_bin, ev_neg, ev_cmp, ev_and, ev_or, ev_not, ev_ite, ev_tup, ev_lst, ev_idx, ev_slc, ev_call, ev_kcall, ev_bi, ev_comp, ev_meth, evs_nil, evs_cons, evo_nil, evo_cons, evc_nil, evc_cons, evi_of, evi_rng, evi_enm, evi_zip, evi_rvs, exs_nil, exs_cons, ex_expr, ex_set, ex_unp, ex_par, ex_put, ex_ite, ex_whl, ex_fr, ex_rt, stores_nil, stores_var, opd_tmp, opd_at, val_tmp, val_atE, valD_def, see_fz, see_at, keep_fz, keep_at, give_fz, give_at, slotAt_def, varK_fz, varK_lst, idxK_fz, idxK_at, nodeK_fz, nodeK_lst, kidK_fz, kidK_lst, seeAll_nil, seeAll_cons, keepAll_nil, keepAll_cons, giveAll_nil, giveAll_cons, leave_tmp, leave_at, isLst_at, isAt_at, putAt_at, tgs_var, forL_nil, forL_cons, calling_none, calling_some, lend_noneE, lend_zero, lend_succ, lentK_fz, lentK_at, putBack_at, wpS, wpSet, wpOpt, wpIte, wpLeave, test_def, boolK_t, boolK_f, kid0, kid1, kid2, frz_fz, shal_fz, frz_nil, shal_nil, frz_ints, shal_ints, varK_dk, nodeK_dk, getAt_nil, getAt_dk0, setAt_nil, setAt_dk0, putD_dk2, negK_int, notK_bool, cmp_eqI, cmp_neI, cmp_ltI, cmp_leI, cmp_gtI, cmp_geI, cmp_neN, tru_bool, add_int, sub_int, bi_intI, bi_intB, bi_absI, rngK_2, limE, wpBoolK, behind_rt0, behind_rtN, if_true, if_false, Bool.false_eq_true, Bool.not_true, Bool.not_false, Bool.true_eq_false, List.isEmpty_nil, List.isEmpty_cons, decide_true, decide_false, List.isEmpty, Nat.zero_le, decide_eq_true_eq, List.getElem?_cons_zero, List.getElem?_cons_succ, List.set_cons_zero, List.set_cons_succ, List.length_cons, List.length_nil, List.map_cons, List.map_nil, List.cons_append, List.nil_append, List.replicate, Nat.reduceAdd, Nat.reduceSub, Nat.reduceLT, Nat.reduceLeDiff, true_and, and_true, x0, x1, x2, cmp_eqS, a1, a2, xor_int, cutP_def, cutEnds_nil, cutEnds_one, cutD_tup, c1, c2, len1, lm, List.length_cons, c3, c4]
    rfl
  | and i j k =>
    obtain ⟨h1, h2, h3, h4, h5⟩ := hd
    obtain ⟨I, hI⟩ : ∃ I : Int, I = i := ⟨_, rfl⟩
    obtain ⟨J, hJ⟩ : ∃ I : Int, I = j := ⟨_, rfl⟩
    obtain ⟨K, hK⟩ : ∃ I : Int, I = k := ⟨_, rfl⟩
    have a1 := idx_intsT hI h1
    have a2 := idx_intsT hJ h2
    have a3 := idx_intsT hK h3
    obtain ⟨c1, c2, c3, c4⟩ := fresh_ok (v := (Deed.and i j k).val w s ws) hI h1 hl
    show wp _ [some (.fz (.int W)), some (.fz (.tuple (intsL ws))), some (.fz (.tuple [.str sAnd, .int i, .int j, .int k])), some (.fz (.int s)), none, none, none] _
    rw [← hI, ← hJ, ← hK]
    clear hI hJ hK
    unfold Deed.val at c3 c4
    simp only [f_changed, bind_bnd, wp_bnd, wp_ret, wp_bad, ev_var, ev_lit, ev_bin, ev_neg, ev_cmp, ev_and, ev_or, ev_not, ev_ite, ev_tup, ev_lst, ev_idx, ev_slc, ev_call, ev_kcall, ev_bi, ev_comp, ev_meth, evs_nil, evs_cons, evo_nil, evo_cons, evc_nil, evc_cons, evi_of, evi_rng, evi_enm, evi_zip, evi_rvs, exs_nil, exs_cons, ex_expr, ex_set, ex_unp, ex_par, ex_put, ex_ite, ex_whl, ex_fr, ex_rt, stores_nil, stores_var, opd_tmp, opd_at, val_tmp, val_atE, valD_def, see_fz, see_at, keep_fz, keep_at, give_fz, give_at, slotAt_def, varK_fz, varK_lst, idxK_fz, idxK_at, nodeK_fz, nodeK_lst, kidK_fz, kidK_lst, seeAll_nil, seeAll_cons, keepAll_nil, keepAll_cons, giveAll_nil, giveAll_cons, leave_tmp, leave_at, isLst_at, isAt_at, putAt_at, tgs_var, forL_nil, forL_cons, calling_none, calling_some, lend_noneE, lend_zero, lend_succ, lentK_fz, lentK_at, putBack_at, wpS, wpSet, wpOpt, wpIte, wpLeave, test_def, boolK_t, boolK_f, kid0, kid1, kid2, frz_fz, shal_fz, frz_nil, shal_nil, frz_ints, shal_ints, varK_dk, nodeK_dk, getAt_nil, getAt_dk0, setAt_nil, setAt_dk0, putD_dk2, negK_int, notK_bool, cmp_eqI, cmp_neI, cmp_ltI, cmp_leI, cmp_gtI, cmp_geI, cmp_neN, tru_bool, add_int, sub_int, bi_intI, bi_intB, bi_absI, rngK_2, limE, wpBoolK, behind_rt0, behind_rtN, if_true, if_false, Bool.false_eq_true, Bool.not_true, Bool.not_false, Bool.true_eq_false, List.isEmpty_nil, List.isEmpty_cons, decide_true, decide_false, List.isEmpty, Nat.zero_le, decide_eq_true_eq, List.getElem?_cons_zero, List.getElem?_cons_succ, List.set_cons_zero, List.set_cons_succ, List.length_cons, List.length_nil, List.map_cons, List.map_nil, List.cons_append, List.nil_append, List.replicate, Nat.reduceAdd, Nat.reduceSub, Nat.reduceLT, Nat.reduceLeDiff, true_and, and_true, x0, x1, x2, x3, cmp_eqS, e2, a1, a2, a3, xor_int, and_int, cutP_def, cutEnds_nil, cutEnds_one, cutD_tup, c1, c2, len1, lm, List.length_cons, c3, c4]
    rfl
  | add i j =>
    obtain ⟨h1, h2, h3⟩ := hd
    obtain ⟨I, hI⟩ : ∃ I : Int, I = i := ⟨_, rfl⟩
    obtain ⟨J, hJ⟩ : ∃ I : Int, I = j := ⟨_, rfl⟩
    have a1 := idx_intsT hI h1
    have a2 := idx_intsT hJ h2
    obtain ⟨c1, c2, c3, c4⟩ := fresh_ok (v := (Deed.add i j).val w s ws) hI h1 hl
    show wp _ [some (.fz (.int W)), some (.fz (.tuple (intsL ws))), some (.fz (.tuple [.str sAdd, .int i, .int j])), some (.fz (.int s)), none, none, none] _
    rw [← hI, ← hJ]
    clear hI hJ
    unfold Deed.val at c3 c4
    simp only [f_changed, bind_bnd, wp_bnd, wp_ret, wp_bad, ev_var, ev_lit, ev_bin, ev_neg, ev_cmp, ev_and, ev_or, ev_not, ev_ite, ev_tup, ev_lst, ev_idx, ev_slc, ev_call, ev_kcall, ev_bi, ev_comp, ev_meth, evs_nil, evs_cons, evo_nil, evo_cons, evc_nil, evc_cons, evi_of, evi_rng, evi_enm, evi_zip, evi_rvs, exs_nil, exs_cons, ex_expr, ex_set, ex_unp, ex_par, ex_put, ex_ite, ex_whl, ex_fr, ex_rt, stores_nil, stores_var, opd_tmp, opd_at, val_tmp, val_atE, valD_def, see_fz, see_at, keep_fz, keep_at, give_fz, give_at, slotAt_def, varK_fz, varK_lst, idxK_fz, idxK_at, nodeK_fz, nodeK_lst, kidK_fz, kidK_lst, seeAll_nil, seeAll_cons, keepAll_nil, keepAll_cons, giveAll_nil, giveAll_cons, leave_tmp, leave_at, isLst_at, isAt_at, putAt_at, tgs_var, forL_nil, forL_cons, calling_none, calling_some, lend_noneE, lend_zero, lend_succ, lentK_fz, lentK_at, putBack_at, wpS, wpSet, wpOpt, wpIte, wpLeave, test_def, boolK_t, boolK_f, kid0, kid1, kid2, frz_fz, shal_fz, frz_nil, shal_nil, frz_ints, shal_ints, varK_dk, nodeK_dk, getAt_nil, getAt_dk0, setAt_nil, setAt_dk0, putD_dk2, negK_int, notK_bool, cmp_eqI, cmp_neI, cmp_ltI, cmp_leI, cmp_gtI, cmp_geI, cmp_neN, tru_bool, add_int, sub_int, bi_intI, bi_intB, bi_absI, rngK_2, limE, wpBoolK, behind_rt0, behind_rtN, if_true, if_false, Bool.false_eq_true, Bool.not_true, Bool.not_false, Bool.true_eq_false, List.isEmpty_nil, List.isEmpty_cons, decide_true, decide_false, List.isEmpty, Nat.zero_le, decide_eq_true_eq, List.getElem?_cons_zero, List.getElem?_cons_succ, List.set_cons_zero, List.set_cons_succ, List.length_cons, List.length_nil, List.map_cons, List.map_nil, List.cons_append, List.nil_append, List.replicate, Nat.reduceAdd, Nat.reduceSub, Nat.reduceLT, Nat.reduceLeDiff, true_and, and_true, x0, x1, x2, cmp_eqS, e3, e4, a1, a2, s1, s2, s3, cutP_def, cutEnds_nil, cutEnds_one, cutD_tup, c1, c2, len1, lm, List.length_cons, c3, c4]
    rfl
  | one i =>
    have h1 : i < ws.length := hd
    obtain ⟨I, hI⟩ : ∃ I : Int, I = i := ⟨_, rfl⟩
    have a1 := idx_intsT hI h1
    obtain ⟨c1, c2, c3, c4⟩ := fresh_ok (v := (Deed.one i).val w s ws) hI h1 hl
    show wp _ [some (.fz (.int W)), some (.fz (.tuple (intsL ws))), some (.fz (.tuple [.str sOne, .int i])), some (.fz (.int s)), none, none, none] _
    rw [← hI]
    clear hI
    unfold Deed.val at c3 c4
    simp only [f_changed, bind_bnd, wp_bnd, wp_ret, wp_bad, ev_var, ev_lit, ev_bin, ev_neg, ev_cmp, ev_and, ev_or, ev_not, ev_ite, ev_tup, ev_lst, ev_idx, ev_slc, ev_call, ev_kcall, ev_bi, ev_comp, ev_meth, evs_nil, evs_cons, evo_nil, evo_cons, evc_nil, evc_cons, evi_of, evi_rng, evi_enm, evi_zip, evi_rvs, exs_nil, exs_cons, ex_expr, ex_set, ex_unp, ex_par, ex_put, ex_ite, ex_whl, ex_fr, ex_rt, stores_nil, stores_var, opd_tmp, opd_at, val_tmp, val_atE, valD_def, see_fz, see_at, keep_fz, keep_at, give_fz, give_at, slotAt_def, varK_fz, varK_lst, idxK_fz, idxK_at, nodeK_fz, nodeK_lst, kidK_fz, kidK_lst, seeAll_nil, seeAll_cons, keepAll_nil, keepAll_cons, giveAll_nil, giveAll_cons, leave_tmp, leave_at, isLst_at, isAt_at, putAt_at, tgs_var, forL_nil, forL_cons, calling_none, calling_some, lend_noneE, lend_zero, lend_succ, lentK_fz, lentK_at, putBack_at, wpS, wpSet, wpOpt, wpIte, wpLeave, test_def, boolK_t, boolK_f, kid0, kid1, kid2, frz_fz, shal_fz, frz_nil, shal_nil, frz_ints, shal_ints, varK_dk, nodeK_dk, getAt_nil, getAt_dk0, setAt_nil, setAt_dk0, putD_dk2, negK_int, notK_bool, cmp_eqI, cmp_neI, cmp_ltI, cmp_leI, cmp_gtI, cmp_geI, cmp_neN, tru_bool, add_int, sub_int, bi_intI, bi_intB, bi_absI, rngK_2, limE, wpBoolK, behind_rt0, behind_rtN, if_true, if_false, Bool.false_eq_true, Bool.not_true, Bool.not_false, Bool.true_eq_false, List.isEmpty_nil, List.isEmpty_cons, decide_true, decide_false, List.isEmpty, Nat.zero_le, decide_eq_true_eq, List.getElem?_cons_zero, List.getElem?_cons_succ, List.set_cons_zero, List.set_cons_succ, List.length_cons, List.length_nil, List.map_cons, List.map_nil, List.cons_append, List.nil_append, List.replicate, Nat.reduceAdd, Nat.reduceSub, Nat.reduceLT, Nat.reduceLeDiff, true_and, and_true, x0, x1, x2, cmp_eqS, e5, e6, e7, a1, s1, s2, s3, cutP_def, cutEnds_nil, cutEnds_one, cutD_tup, c1, c2, len1, lm, List.length_cons, c3, c4]
    rfl
theorem done_ok {G : Nat → Option Fn} (h0 : G i_changed = some f_changed) (hG : G i_done = some f_done) (w : Nat) {W : Int} (hW : W = w) (hw : w ≤ 1000) (ws : List Int) (hl : ws.length ≤ 990) (d : Deed) (hd : d.ok ws.length) {n : Nat} (hn : 2 ≤ n) :
    callN G n i_done [.fz (.int W), .fz (.tuple (intsL ws)), .fz d.data] = .ok (.fz (.tuple (intsL (chg w 1 ws d)))) none := by
  obtain ⟨n, rfl⟩ : ∃ m, n = m + 1 := ⟨n - 1, by omega⟩
  have h := changed_ok h0 w hW hw ws hl d hd 1 (.inl rfl) (n := n) (by omega)
  have m0 := muN h0
  generalize d.data = D at h ⊢
  clear hW
  refine call_wp hG rfl ?_
  simp only [f_done, bind_bnd, wp_bnd, wp_ret, wp_bad, ev_var, ev_lit, ev_bin, ev_neg, ev_cmp, ev_and, ev_or, ev_not, ev_ite, ev_tup, ev_lst, ev_idx, ev_slc, ev_call, ev_kcall, ev_bi, ev_comp, ev_meth, evs_nil, evs_cons, evo_nil, evo_cons, evc_nil, evc_cons, evi_of, evi_rng, evi_enm, evi_zip, evi_rvs, exs_nil, exs_cons, ex_expr, ex_set, ex_unp, ex_par, ex_put, ex_ite, ex_whl, ex_fr, ex_rt, stores_nil, stores_var, opd_tmp, opd_at, val_tmp, val_atE, valD_def, see_fz, see_at, keep_fz, keep_at, give_fz, give_at, slotAt_def, varK_fz, varK_lst, idxK_fz, idxK_at, nodeK_fz, nodeK_lst, kidK_fz, kidK_lst, seeAll_nil, seeAll_cons, keepAll_nil, keepAll_cons, giveAll_nil, giveAll_cons, leave_tmp, leave_at, isLst_at, isAt_at, putAt_at, tgs_var, forL_nil, forL_cons, calling_none, calling_some, lend_noneE, lend_zero, lend_succ, lentK_fz, lentK_at, putBack_at, wpS, wpSet, wpOpt, wpIte, wpLeave, test_def, boolK_t, boolK_f, kid0, kid1, kid2, frz_fz, shal_fz, frz_nil, shal_nil, frz_ints, shal_ints, varK_dk, nodeK_dk, getAt_nil, getAt_dk0, setAt_nil, setAt_dk0, putD_dk2, negK_int, notK_bool, cmp_eqI, cmp_neI, cmp_ltI, cmp_leI, cmp_gtI, cmp_geI, cmp_neN, tru_bool, add_int, sub_int, bi_intI, bi_intB, bi_absI, rngK_2, limE, wpBoolK, behind_rt0, behind_rtN, if_true, if_false, Bool.false_eq_true, Bool.not_true, Bool.not_false, Bool.true_eq_false, List.isEmpty_nil, List.isEmpty_cons, decide_true, decide_false, List.isEmpty, Nat.zero_le, decide_eq_true_eq, List.getElem?_cons_zero, List.getElem?_cons_succ, List.set_cons_zero, List.set_cons_succ, List.length_cons, List.length_nil, List.map_cons, List.map_nil, List.cons_append, List.nil_append, List.replicate, Nat.reduceAdd, Nat.reduceSub, Nat.reduceLT, Nat.reduceLeDiff, true_and, and_true, m0, h]
theorem undone_ok {G : Nat → Option Fn} (h0 : G i_changed = some f_changed) (hG : G i_undone = some f_undone) (w : Nat) {W : Int} (hW : W = w) (hw : w ≤ 1000) (ws : List Int) (hl : ws.length ≤ 990) (d : Deed) (hd : d.ok ws.length) {n : Nat} (hn : 2 ≤ n) :
    callN G n i_undone [.fz (.int W), .fz (.tuple (intsL ws)), .fz d.data] = .ok (.fz (.tuple (intsL (chg w (-1) ws d)))) none := by
  obtain ⟨n, rfl⟩ : ∃ m, n = m + 1 := ⟨n - 1, by omega⟩
  have h := changed_ok h0 w hW hw ws hl d hd (-1) (.inr rfl) (n := n) (by omega)
  have m0 := muN h0
  generalize d.data = D at h ⊢
  clear hW
  refine call_wp hG rfl ?_
  simp only [f_undone, bind_bnd, wp_bnd, wp_ret, wp_bad, ev_var, ev_lit, ev_bin, ev_neg, ev_cmp, ev_and, ev_or, ev_not, ev_ite, ev_tup, ev_lst, ev_idx, ev_slc, ev_call, ev_kcall, ev_bi, ev_comp, ev_meth, evs_nil, evs_cons, evo_nil, evo_cons, evc_nil, evc_cons, evi_of, evi_rng, evi_enm, evi_zip, evi_rvs, exs_nil, exs_cons, ex_expr, ex_set, ex_unp, ex_par, ex_put, ex_ite, ex_whl, ex_fr, ex_rt, stores_nil, stores_var, opd_tmp, opd_at, val_tmp, val_atE, valD_def, see_fz, see_at, keep_fz, keep_at, give_fz, give_at, slotAt_def, varK_fz, varK_lst, idxK_fz, idxK_at, nodeK_fz, nodeK_lst, kidK_fz, kidK_lst, seeAll_nil, seeAll_cons, keepAll_nil, keepAll_cons, giveAll_nil, giveAll_cons, leave_tmp, leave_at, isLst_at, isAt_at, putAt_at, tgs_var, forL_nil, forL_cons, calling_none, calling_some, lend_noneE, lend_zero, lend_succ, lentK_fz, lentK_at, putBack_at, wpS, wpSet, wpOpt, wpIte, wpLeave, test_def, boolK_t, boolK_f, kid0, kid1, kid2, frz_fz, shal_fz, frz_nil, shal_nil, frz_ints, shal_ints, varK_dk, nodeK_dk, getAt_nil, getAt_dk0, setAt_nil, setAt_dk0, putD_dk2, negK_int, notK_bool, cmp_eqI, cmp_neI, cmp_ltI, cmp_leI, cmp_gtI, cmp_geI, cmp_neN, tru_bool, add_int, sub_int, bi_intI, bi_intB, bi_absI, rngK_2, limE, wpBoolK, behind_rt0, behind_rtN, if_true, if_false, Bool.false_eq_true, Bool.not_true, Bool.not_false, Bool.true_eq_false, List.isEmpty_nil, List.isEmpty_cons, decide_true, decide_false, List.isEmpty, Nat.zero_le, decide_eq_true_eq, List.getElem?_cons_zero, List.getElem?_cons_succ, List.set_cons_zero, List.set_cons_succ, List.length_cons, List.length_nil, List.map_cons, List.map_nil, List.cons_append, List.nil_append, List.replicate, Nat.reduceAdd, Nat.reduceSub, Nat.reduceLT, Nat.reduceLeDiff, true_and, and_true, m0, h]
end HW
end

section
set_option linter.all false
set_option maxHeartbeats 4000000
set_option maxRecDepth 4000
/-! # Plain: sums and bits, level by level -/
namespace HW
open PySem PyProof.Rows PySem.W
theorem for_range {body : PyData → M Fl} {P : Fl → Env → Prop} (I : Nat → Env → Prop) (w : Nat) (step : ∀ l e, l < w → I l e → wp (body (.int (l : Int))) e fun f e1 => match f with | .nx => I (l + 1) e1 | .ct => I (l + 1) e1 | .bk => P .nx e1 | .rt o => P (.rt o) e1) (done : ∀ e, I w e → P .nx e) (e : Env) (h : I 0 e) :
    wp (forL body (intsL ((List.range w).map fun (k : Nat) => (k : Int)))) e P := by
  refine for_inv (fun rest e => ∃ l m, l + m = w ∧ rest = intsL ((List.range' l m).map fun (k : Nat) => (k : Int)) ∧ I l e) (fun d ds e h => ?_) (fun e h => ?_) _ e ⟨0, w, by omega, by rw [List.range_eq_range'], h⟩
  · obtain ⟨l, m, h1, h2, h3⟩ := h
    cases m with
    | zero => cases h2
    | succ m =>
      have h2 : d :: ds = .int (l : Int) :: intsL ((List.range' (l + 1) m).map fun (k : Nat) => (k : Int)) := h2
      injection h2 with e1 e2
      subst e1 e2
      refine wp_mono (step l e (by omega) h3) fun f e1 q => ?_
      cases f with
      | nx => exact ⟨l + 1, m, by omega, rfl, q⟩
      | ct => exact ⟨l + 1, m, by omega, rfl, q⟩
      | bk => exact q
      | rt o => exact q
  · obtain ⟨l, m, h1, h2, h3⟩ := h
    cases m with
    | succ m => cases h2
    | zero => exact done e (by rw [show w = l by omega]; exact h3)
theorem mod_succ (x : Int) (l : Nat) : x % 2 ^ (l + 1) = x % 2 ^ l + bit x l * 2 ^ l := by
  have hp := kbt_pos l
  have h1 := Int.mul_ediv_add_emod x (2 ^ l)
  have h2 := Int.mul_ediv_add_emod (x / 2 ^ l) 2
  have h3 := Int.emod_nonneg x (show (2 : Int) ^ l ≠ 0 by omega)
  have h4 := Int.emod_lt_of_pos x hp
  have h5 := bit01 x l
  have hb : bit x l = x / 2 ^ l % 2 := rfl
  refine (kbt_unique (q := x / 2 ^ l / 2) (kbt_pos (l + 1)) ?_ ?_ ?_).2
  · rw [Int.pow_succ, hb, Int.mul_assoc]
    have e : (2 : Int) ^ l * (2 * (x / 2 ^ l / 2)) + x / 2 ^ l % 2 * 2 ^ l = 2 ^ l * (x / 2 ^ l) := by
      rw [Int.mul_comm (x / 2 ^ l % 2), ← Int.mul_add, h2]
    omega
  · rcases h5 with z | z <;> rw [z] <;> omega
  · rw [Int.pow_succ]
    rcases h5 with z | z <;> rw [z] <;> omega
theorem bit_and2 : ∀ (k : Nat) (x y : Int), bit (Builtin.bitAnd x y) k = bit x k * bit y k
  | 0, x, y => by
    have h := kbt_halves x y
    unfold bit
    simp only [Int.pow_zero, Int.ediv_one]
    rcases Int.emod_two_eq x with a | a <;> rcases Int.emod_two_eq y with b | b <;> rw [a, b] at h ⊢ <;> simp at h ⊢ <;> omega
  | k + 1, x, y => by
    rw [bit_succ, bit_succ, bit_succ, ← bit_and2 k (x / 2) (y / 2)]
    congr 1
    have h := kbt_halves x y
    split at h <;> omega
/-- what the sum has come to -/
structure SumAt (a b c : Int) (l : Nat) (F C : Int) : Prop where
  f0 : 0 ≤ F
  f1 : F < 2 ^ l
  eq : F + C * 2 ^ l = a % 2 ^ l + b % 2 ^ l + c
  c0 : 0 ≤ C
theorem SumAt.step {a b c : Int} {l : Nat} {F C : Int} (h : SumAt a b c l F C) : SumAt a b c (l + 1) (F + (bit a l + bit b l + C) % 2 * 2 ^ l) ((bit a l + bit b l + C) / 2) := by
  have hp := kbt_pos l
  have h1 := bit01 a l
  have h2 := bit01 b l
  have c0 := h.c0
  have f0 := h.f0
  have f1 := h.f1
  generalize hm : bit a l + bit b l + C = M
  have m2 := Int.mul_ediv_add_emod M 2
  have hq : 0 ≤ M / 2 := by omega
  have hr : M % 2 = 0 ∨ M % 2 = 1 := by omega
  refine ⟨?_, ?_, ?_, hq⟩
  · rcases hr with z | z <;> rw [z] <;> omega
  · rw [Int.pow_succ]
    rcases hr with z | z <;> rw [z] <;> omega
  · rw [mod_succ a, mod_succ b, Int.pow_succ]
    have e1 : M / 2 * (2 ^ l * 2) + M % 2 * 2 ^ l = M * 2 ^ l := by
      rw [Int.mul_comm ((2 : Int) ^ l) 2, ← Int.mul_assoc, ← Int.add_mul]
      congr 1
      omega
    have e2 : M * 2 ^ l = bit a l * 2 ^ l + bit b l * 2 ^ l + C * 2 ^ l := by rw [← hm, Int.add_mul, Int.add_mul]
    have e3 := h.eq
    omega
theorem SumAt.done {a b c : Int} {l : Nat} {F C : Int} (h : SumAt a b c l F C) : F = (a + b + c) % 2 ^ l := by
  have e := (kbt_unique (q := C) (kbt_pos l) (show F + 2 ^ l * C = a % 2 ^ l + b % 2 ^ l + c by rw [Int.mul_comm]; exact h.eq) h.f0 h.f1).2
  have h1 := Int.mul_ediv_add_emod a (2 ^ l)
  have h2 := Int.mul_ediv_add_emod b (2 ^ l)
  rw [← e, show a % 2 ^ l + b % 2 ^ l + c = (a + b + c) + 2 ^ l * (-(a / 2 ^ l) - b / 2 ^ l) by rw [Int.mul_sub, Int.mul_neg]; omega, Int.add_mul_emod_self_left]
theorem law_sum_ok {G : Nat → Option Fn} (hG : G i_law_sum = some f_law_sum) (w : Nat) {W : Int} (hW : W = w) (hw : w ≤ 1000) (a b c : Int) (hc : 0 ≤ c) {n : Nat} (hn : 1 ≤ n) :
    callN G n i_law_sum [.fz (.int W), .fz (.int a), .fz (.int b), .fz (.int c)] = .ok (.fz (.int ((a + b + c) % 2 ^ w))) none := by
  obtain ⟨n, rfl⟩ : ∃ m, n = m + 1 := ⟨n - 1, by omega⟩
  have hr : rngK [.int W] = ret (intsL ((List.range w).map fun (k : Nat) => (k : Int))) := by rw [hW]; exact rngK_nat (by omega)
  have t2 : ∀ y : Int, binD .mod (.int y) (.int 2) = some (.fz (.int (y % 2))) := fun y => mod_int (by decide)
  have t3 : ∀ y : Int, binD .fdiv (.int y) (.int 2) = some (.fz (.int (y / 2))) := fun y => div_int (by decide) (by decide)
  clear hW
  refine call_wp hG rfl ?_
  simp only [f_law_sum, bind_bnd, wp_bnd, wp_ret, wp_bad, ev_var, ev_lit, ev_bin, ev_neg, ev_cmp, ev_and, ev_or, ev_not, ev_ite, ev_tup, ev_lst, ev_idx, ev_slc, ev_call, ev_kcall, ev_bi, ev_comp, ev_meth, evs_nil, evs_cons, evo_nil, evo_cons, evc_nil, evc_cons, evi_of, evi_rng, evi_enm, evi_zip, evi_rvs, exs_nil, exs_cons, ex_expr, ex_set, ex_unp, ex_par, ex_put, ex_ite, ex_whl, ex_fr, ex_rt, stores_nil, stores_var, opd_tmp, opd_at, val_tmp, val_atE, valD_def, see_fz, see_at, keep_fz, keep_at, give_fz, give_at, slotAt_def, varK_fz, varK_lst, idxK_fz, idxK_at, nodeK_fz, nodeK_lst, kidK_fz, kidK_lst, seeAll_nil, seeAll_cons, keepAll_nil, keepAll_cons, giveAll_nil, giveAll_cons, leave_tmp, leave_at, isLst_at, isAt_at, putAt_at, tgs_var, forL_nil, forL_cons, calling_none, calling_some, lend_noneE, lend_zero, lend_succ, lentK_fz, lentK_at, putBack_at, wpS, wpSet, wpOpt, wpIte, wpLeave, test_def, boolK_t, boolK_f, kid0, kid1, kid2, frz_fz, shal_fz, frz_nil, shal_nil, frz_ints, shal_ints, varK_dk, nodeK_dk, getAt_nil, getAt_dk0, setAt_nil, setAt_dk0, putD_dk2, negK_int, notK_bool, cmp_eqI, cmp_neI, cmp_ltI, cmp_leI, cmp_gtI, cmp_geI, cmp_neN, tru_bool, add_int, sub_int, bi_intI, bi_intB, bi_absI, rngK_2, limE, wpBoolK, behind_rt0, behind_rtN, if_true, if_false, Bool.false_eq_true, Bool.not_true, Bool.not_false, Bool.true_eq_false, List.isEmpty_nil, List.isEmpty_cons, decide_true, decide_false, List.isEmpty, Nat.zero_le, decide_eq_true_eq, List.getElem?_cons_zero, List.getElem?_cons_succ, List.set_cons_zero, List.set_cons_succ, List.length_cons, List.length_nil, List.map_cons, List.map_nil, List.cons_append, List.nil_append, List.replicate, Nat.reduceAdd, Nat.reduceSub, Nat.reduceLT, Nat.reduceLeDiff, true_and, and_true, hr]
  refine for_range (fun l e => ∃ F C x5 x6 x7 x8, SumAt a b c l F C ∧ e = [some (.fz (.int W)), some (.fz (.int a)), some (.fz (.int b)), some (.fz (.int C)), some (.fz (.int F)), x5, x6, x7, x8]) w (fun l e hlw h => ?_) (fun e h => ?_) _ ⟨0, c, none, none, none, none, ⟨by omega, by simp, by simp, hc⟩, rfl⟩
  · obtain ⟨F, C, x5, x6, x7, x8, h, rfl⟩ := h
    have hp := kbt_pos l
    have lg : ((2 : Int) ^ l).natAbs.log2 < 9000 := by
      have e1 : ((2 : Int) ^ l).natAbs = 2 ^ l := by rw [← kbt_cast]; exact Int.natAbs_natCast _
      rw [e1, Nat.log2_two_pow]; omega
    have s1 : binD .shl (.int 1) (.int (l : Int)) = some (.fz (.int (2 ^ l))) := by rw [shl_int (by decide) (by omega), Int.one_mul]
    have s3 : ∀ y : Int, binD .fdiv (.int y) (.int (2 ^ l)) = some (.fz (.int (y / 2 ^ l))) := fun y => div_int hp lg
    have s4 : ∀ y : Int, binD .mul (.int (y % 2)) (.int (2 ^ l)) = some (.fz (.int (y % 2 * 2 ^ l))) := fun y => mul_int (mulOk_l (by omega) (by omega))
    have hs := h.step
    unfold bit at hs
    generalize ((l : Nat) : Int) = Lv at s1 ⊢
    simp only [bind_bnd, wp_bnd, wp_ret, wp_bad, ev_var, ev_lit, ev_bin, ev_neg, ev_cmp, ev_and, ev_or, ev_not, ev_ite, ev_tup, ev_lst, ev_idx, ev_slc, ev_call, ev_kcall, ev_bi, ev_comp, ev_meth, evs_nil, evs_cons, evo_nil, evo_cons, evc_nil, evc_cons, evi_of, evi_rng, evi_enm, evi_zip, evi_rvs, exs_nil, exs_cons, ex_expr, ex_set, ex_unp, ex_par, ex_put, ex_ite, ex_whl, ex_fr, ex_rt, stores_nil, stores_var, opd_tmp, opd_at, val_tmp, val_atE, valD_def, see_fz, see_at, keep_fz, keep_at, give_fz, give_at, slotAt_def, varK_fz, varK_lst, idxK_fz, idxK_at, nodeK_fz, nodeK_lst, kidK_fz, kidK_lst, seeAll_nil, seeAll_cons, keepAll_nil, keepAll_cons, giveAll_nil, giveAll_cons, leave_tmp, leave_at, isLst_at, isAt_at, putAt_at, tgs_var, forL_nil, forL_cons, calling_none, calling_some, lend_noneE, lend_zero, lend_succ, lentK_fz, lentK_at, putBack_at, wpS, wpSet, wpOpt, wpIte, wpLeave, test_def, boolK_t, boolK_f, kid0, kid1, kid2, frz_fz, shal_fz, frz_nil, shal_nil, frz_ints, shal_ints, varK_dk, nodeK_dk, getAt_nil, getAt_dk0, setAt_nil, setAt_dk0, putD_dk2, negK_int, notK_bool, cmp_eqI, cmp_neI, cmp_ltI, cmp_leI, cmp_gtI, cmp_geI, cmp_neN, tru_bool, add_int, sub_int, bi_intI, bi_intB, bi_absI, rngK_2, limE, wpBoolK, behind_rt0, behind_rtN, if_true, if_false, Bool.false_eq_true, Bool.not_true, Bool.not_false, Bool.true_eq_false, List.isEmpty_nil, List.isEmpty_cons, decide_true, decide_false, List.isEmpty, Nat.zero_le, decide_eq_true_eq, List.getElem?_cons_zero, List.getElem?_cons_succ, List.set_cons_zero, List.set_cons_succ, List.length_cons, List.length_nil, List.map_cons, List.map_nil, List.cons_append, List.nil_append, List.replicate, Nat.reduceAdd, Nat.reduceSub, Nat.reduceLT, Nat.reduceLeDiff, true_and, and_true, tgs_v, sA_int, s1, s3, s4, t2, t3]
    exact ⟨_, _, _, _, _, _, hs, rfl⟩
  · obtain ⟨F, C, x5, x6, x7, x8, h, rfl⟩ := h
    rw [← h.done]
    simp only [bind_bnd, wp_bnd, wp_ret, wp_bad, ev_var, ev_lit, ev_bin, ev_neg, ev_cmp, ev_and, ev_or, ev_not, ev_ite, ev_tup, ev_lst, ev_idx, ev_slc, ev_call, ev_kcall, ev_bi, ev_comp, ev_meth, evs_nil, evs_cons, evo_nil, evo_cons, evc_nil, evc_cons, evi_of, evi_rng, evi_enm, evi_zip, evi_rvs, exs_nil, exs_cons, ex_expr, ex_set, ex_unp, ex_par, ex_put, ex_ite, ex_whl, ex_fr, ex_rt, stores_nil, stores_var, opd_tmp, opd_at, val_tmp, val_atE, valD_def, see_fz, see_at, keep_fz, keep_at, give_fz, give_at, slotAt_def, varK_fz, varK_lst, idxK_fz, idxK_at, nodeK_fz, nodeK_lst, kidK_fz, kidK_lst, seeAll_nil, seeAll_cons, keepAll_nil, keepAll_cons, giveAll_nil, giveAll_cons, leave_tmp, leave_at, isLst_at, isAt_at, putAt_at, tgs_var, forL_nil, forL_cons, calling_none, calling_some, lend_noneE, lend_zero, lend_succ, lentK_fz, lentK_at, putBack_at, wpS, wpSet, wpOpt, wpIte, wpLeave, test_def, boolK_t, boolK_f, kid0, kid1, kid2, frz_fz, shal_fz, frz_nil, shal_nil, frz_ints, shal_ints, varK_dk, nodeK_dk, getAt_nil, getAt_dk0, setAt_nil, setAt_dk0, putD_dk2, negK_int, notK_bool, cmp_eqI, cmp_neI, cmp_ltI, cmp_leI, cmp_gtI, cmp_geI, cmp_neN, tru_bool, add_int, sub_int, bi_intI, bi_intB, bi_absI, rngK_2, limE, wpBoolK, behind_rt0, behind_rtN, if_true, if_false, Bool.false_eq_true, Bool.not_true, Bool.not_false, Bool.true_eq_false, List.isEmpty_nil, List.isEmpty_cons, decide_true, decide_false, List.isEmpty, Nat.zero_le, decide_eq_true_eq, List.getElem?_cons_zero, List.getElem?_cons_succ, List.set_cons_zero, List.set_cons_succ, List.length_cons, List.length_nil, List.map_cons, List.map_nil, List.cons_append, List.nil_append, List.replicate, Nat.reduceAdd, Nat.reduceSub, Nat.reduceLT, Nat.reduceLeDiff, true_and, and_true]
theorem bit_xor2 (a b : Int) (l : Nat) : bit (Builtin.bitXor a b) l = if bit a l = bit b l then 0 else 1 := by
  rw [bit_xor]
  rcases bit01 a l with x | x <;> rcases bit01 b l with y | y <;> rw [x, y] <;> decide
theorem law_turned_ok {G : Nat → Option Fn} (hG : G i_law_turned = some f_law_turned) (w : Nat) {W : Int} (hW : W = w) (hw : w ≤ 1000) (a b : Int) {n : Nat} (hn : 1 ≤ n) :
    callN G n i_law_turned [.fz (.int W), .fz (.int a), .fz (.int b)] = .ok (.fz (.int (Builtin.bitXor a b % 2 ^ w))) none := by
  obtain ⟨n, rfl⟩ : ∃ m, n = m + 1 := ⟨n - 1, by omega⟩
  have hr : rngK [.int W] = ret (intsL ((List.range w).map fun (k : Nat) => (k : Int))) := by rw [hW]; exact rngK_nat (by omega)
  have t2 : ∀ y : Int, binD .mod (.int y) (.int 2) = some (.fz (.int (y % 2))) := fun y => mod_int (by decide)
  clear hW
  refine call_wp hG rfl ?_
  simp only [f_law_turned, bind_bnd, wp_bnd, wp_ret, wp_bad, ev_var, ev_lit, ev_bin, ev_neg, ev_cmp, ev_and, ev_or, ev_not, ev_ite, ev_tup, ev_lst, ev_idx, ev_slc, ev_call, ev_kcall, ev_bi, ev_comp, ev_meth, evs_nil, evs_cons, evo_nil, evo_cons, evc_nil, evc_cons, evi_of, evi_rng, evi_enm, evi_zip, evi_rvs, exs_nil, exs_cons, ex_expr, ex_set, ex_unp, ex_par, ex_put, ex_ite, ex_whl, ex_fr, ex_rt, stores_nil, stores_var, opd_tmp, opd_at, val_tmp, val_atE, valD_def, see_fz, see_at, keep_fz, keep_at, give_fz, give_at, slotAt_def, varK_fz, varK_lst, idxK_fz, idxK_at, nodeK_fz, nodeK_lst, kidK_fz, kidK_lst, seeAll_nil, seeAll_cons, keepAll_nil, keepAll_cons, giveAll_nil, giveAll_cons, leave_tmp, leave_at, isLst_at, isAt_at, putAt_at, tgs_var, forL_nil, forL_cons, calling_none, calling_some, lend_noneE, lend_zero, lend_succ, lentK_fz, lentK_at, putBack_at, wpS, wpSet, wpOpt, wpIte, wpLeave, test_def, boolK_t, boolK_f, kid0, kid1, kid2, frz_fz, shal_fz, frz_nil, shal_nil, frz_ints, shal_ints, varK_dk, nodeK_dk, getAt_nil, getAt_dk0, setAt_nil, setAt_dk0, putD_dk2, negK_int, notK_bool, cmp_eqI, cmp_neI, cmp_ltI, cmp_leI, cmp_gtI, cmp_geI, cmp_neN, tru_bool, add_int, sub_int, bi_intI, bi_intB, bi_absI, rngK_2, limE, wpBoolK, behind_rt0, behind_rtN, if_true, if_false, Bool.false_eq_true, Bool.not_true, Bool.not_false, Bool.true_eq_false, List.isEmpty_nil, List.isEmpty_cons, decide_true, decide_false, List.isEmpty, Nat.zero_le, decide_eq_true_eq, List.getElem?_cons_zero, List.getElem?_cons_succ, List.set_cons_zero, List.set_cons_succ, List.length_cons, List.length_nil, List.map_cons, List.map_nil, List.cons_append, List.nil_append, List.replicate, Nat.reduceAdd, Nat.reduceSub, Nat.reduceLT, Nat.reduceLeDiff, true_and, and_true, hr]
  refine for_range (fun l e => ∃ x4 x5 x6, e = [some (.fz (.int W)), some (.fz (.int a)), some (.fz (.int b)), some (.fz (.int (Builtin.bitXor a b % 2 ^ l))), x4, x5, x6]) w (fun l e hlw h => ?_) (fun e h => ?_) _ ⟨none, none, none, by simp [Int.emod_one]⟩
  · obtain ⟨x4, x5, x6, rfl⟩ := h
    have hp := kbt_pos l
    have lg : ((2 : Int) ^ l).natAbs.log2 < 9000 := by
      have e1 : ((2 : Int) ^ l).natAbs = 2 ^ l := by rw [← kbt_cast]; exact Int.natAbs_natCast _
      rw [e1, Nat.log2_two_pow]; omega
    have s1 : binD .shl (.int 1) (.int (l : Int)) = some (.fz (.int (2 ^ l))) := by rw [shl_int (by decide) (by omega), Int.one_mul]
    have s3 : ∀ y : Int, binD .fdiv (.int y) (.int (2 ^ l)) = some (.fz (.int (y / 2 ^ l))) := fun y => div_int hp lg
    have hx := mod_succ (Builtin.bitXor a b) l
    rw [bit_xor2] at hx
    unfold bit at hx
    have s4 : binD .mul (.int (if (!decide (a / 2 ^ l % 2 = b / 2 ^ l % 2)) = true then 1 else 0)) (.int (2 ^ l)) = some (.fz (.int ((if a / 2 ^ l % 2 = b / 2 ^ l % 2 then 0 else 1) * 2 ^ l))) := by
      by_cases g : a / 2 ^ l % 2 = b / 2 ^ l % 2
      · simp only [g, decide_true, Bool.not_true, if_true, if_false, Bool.false_eq_true]; exact mul_int (mulOk_l (by decide) (by decide))
      · simp only [g, decide_false, Bool.not_false, if_true, if_false]; exact mul_int (mulOk_l (by decide) (by decide))
    generalize ((l : Nat) : Int) = Lv at s1 ⊢
    simp only [ev_lit, bind_bnd, wp_bnd, wp_ret, wp_bad, ev_var, ev_lit, ev_bin, ev_neg, ev_cmp, ev_and, ev_or, ev_not, ev_ite, ev_tup, ev_lst, ev_idx, ev_slc, ev_call, ev_kcall, ev_bi, ev_comp, ev_meth, evs_nil, evs_cons, evo_nil, evo_cons, evc_nil, evc_cons, evi_of, evi_rng, evi_enm, evi_zip, evi_rvs, exs_nil, exs_cons, ex_expr, ex_set, ex_unp, ex_par, ex_put, ex_ite, ex_whl, ex_fr, ex_rt, stores_nil, stores_var, opd_tmp, opd_at, val_tmp, val_atE, valD_def, see_fz, see_at, keep_fz, keep_at, give_fz, give_at, slotAt_def, varK_fz, varK_lst, idxK_fz, idxK_at, nodeK_fz, nodeK_lst, kidK_fz, kidK_lst, seeAll_nil, seeAll_cons, keepAll_nil, keepAll_cons, giveAll_nil, giveAll_cons, leave_tmp, leave_at, isLst_at, isAt_at, putAt_at, tgs_var, forL_nil, forL_cons, calling_none, calling_some, lend_noneE, lend_zero, lend_succ, lentK_fz, lentK_at, putBack_at, wpS, wpSet, wpOpt, wpIte, wpLeave, test_def, boolK_t, boolK_f, kid0, kid1, kid2, frz_fz, shal_fz, frz_nil, shal_nil, frz_ints, shal_ints, varK_dk, nodeK_dk, getAt_nil, getAt_dk0, setAt_nil, setAt_dk0, putD_dk2, negK_int, notK_bool, cmp_eqI, cmp_neI, cmp_ltI, cmp_leI, cmp_gtI, cmp_geI, cmp_neN, tru_bool, add_int, sub_int, bi_intI, bi_intB, bi_absI, rngK_2, limE, wpBoolK, behind_rt0, behind_rtN, if_true, if_false, Bool.false_eq_true, Bool.not_true, Bool.not_false, Bool.true_eq_false, List.isEmpty_nil, List.isEmpty_cons, decide_true, decide_false, List.isEmpty, Nat.zero_le, decide_eq_true_eq, List.getElem?_cons_zero, List.getElem?_cons_succ, List.set_cons_zero, List.set_cons_succ, List.length_cons, List.length_nil, List.map_cons, List.map_nil, List.cons_append, List.nil_append, List.replicate, Nat.reduceAdd, Nat.reduceSub, Nat.reduceLT, Nat.reduceLeDiff, true_and, and_true, tgs_v, sA_int, s1, s3, t2, s4]
    rw [hx]
    exact ⟨_, _, _, rfl⟩
  · obtain ⟨x4, x5, x6, rfl⟩ := h
    simp only [bind_bnd, wp_bnd, wp_ret, wp_bad, ev_var, ev_lit, ev_bin, ev_neg, ev_cmp, ev_and, ev_or, ev_not, ev_ite, ev_tup, ev_lst, ev_idx, ev_slc, ev_call, ev_kcall, ev_bi, ev_comp, ev_meth, evs_nil, evs_cons, evo_nil, evo_cons, evc_nil, evc_cons, evi_of, evi_rng, evi_enm, evi_zip, evi_rvs, exs_nil, exs_cons, ex_expr, ex_set, ex_unp, ex_par, ex_put, ex_ite, ex_whl, ex_fr, ex_rt, stores_nil, stores_var, opd_tmp, opd_at, val_tmp, val_atE, valD_def, see_fz, see_at, keep_fz, keep_at, give_fz, give_at, slotAt_def, varK_fz, varK_lst, idxK_fz, idxK_at, nodeK_fz, nodeK_lst, kidK_fz, kidK_lst, seeAll_nil, seeAll_cons, keepAll_nil, keepAll_cons, giveAll_nil, giveAll_cons, leave_tmp, leave_at, isLst_at, isAt_at, putAt_at, tgs_var, forL_nil, forL_cons, calling_none, calling_some, lend_noneE, lend_zero, lend_succ, lentK_fz, lentK_at, putBack_at, wpS, wpSet, wpOpt, wpIte, wpLeave, test_def, boolK_t, boolK_f, kid0, kid1, kid2, frz_fz, shal_fz, frz_nil, shal_nil, frz_ints, shal_ints, varK_dk, nodeK_dk, getAt_nil, getAt_dk0, setAt_nil, setAt_dk0, putD_dk2, negK_int, notK_bool, cmp_eqI, cmp_neI, cmp_ltI, cmp_leI, cmp_gtI, cmp_geI, cmp_neN, tru_bool, add_int, sub_int, bi_intI, bi_intB, bi_absI, rngK_2, limE, wpBoolK, behind_rt0, behind_rtN, if_true, if_false, Bool.false_eq_true, Bool.not_true, Bool.not_false, Bool.true_eq_false, List.isEmpty_nil, List.isEmpty_cons, decide_true, decide_false, List.isEmpty, Nat.zero_le, decide_eq_true_eq, List.getElem?_cons_zero, List.getElem?_cons_succ, List.set_cons_zero, List.set_cons_succ, List.length_cons, List.length_nil, List.map_cons, List.map_nil, List.cons_append, List.nil_append, List.replicate, Nat.reduceAdd, Nat.reduceSub, Nat.reduceLT, Nat.reduceLeDiff, true_and, and_true]
theorem law_shared2_ok {G : Nat → Option Fn} (hG : G i_law_shared_2 = some f_law_shared_2) (w : Nat) {W : Int} (hW : W = w) (hw : w ≤ 1000) (a b : Int) {n : Nat} (hn : 1 ≤ n) :
    callN G n i_law_shared_2 [.fz (.int W), .fz (.int a), .fz (.int b)] = .ok (.fz (.int (Builtin.bitAnd a b % 2 ^ w))) none := by
  obtain ⟨n, rfl⟩ : ∃ m, n = m + 1 := ⟨n - 1, by omega⟩
  have hr : rngK [.int W] = ret (intsL ((List.range w).map fun (k : Nat) => (k : Int))) := by rw [hW]; exact rngK_nat (by omega)
  have t2 : ∀ y : Int, binD .mod (.int y) (.int 2) = some (.fz (.int (y % 2))) := fun y => mod_int (by decide)
  clear hW
  refine call_wp hG rfl ?_
  simp only [f_law_shared_2, bind_bnd, wp_bnd, wp_ret, wp_bad, ev_var, ev_lit, ev_bin, ev_neg, ev_cmp, ev_and, ev_or, ev_not, ev_ite, ev_tup, ev_lst, ev_idx, ev_slc, ev_call, ev_kcall, ev_bi, ev_comp, ev_meth, evs_nil, evs_cons, evo_nil, evo_cons, evc_nil, evc_cons, evi_of, evi_rng, evi_enm, evi_zip, evi_rvs, exs_nil, exs_cons, ex_expr, ex_set, ex_unp, ex_par, ex_put, ex_ite, ex_whl, ex_fr, ex_rt, stores_nil, stores_var, opd_tmp, opd_at, val_tmp, val_atE, valD_def, see_fz, see_at, keep_fz, keep_at, give_fz, give_at, slotAt_def, varK_fz, varK_lst, idxK_fz, idxK_at, nodeK_fz, nodeK_lst, kidK_fz, kidK_lst, seeAll_nil, seeAll_cons, keepAll_nil, keepAll_cons, giveAll_nil, giveAll_cons, leave_tmp, leave_at, isLst_at, isAt_at, putAt_at, tgs_var, forL_nil, forL_cons, calling_none, calling_some, lend_noneE, lend_zero, lend_succ, lentK_fz, lentK_at, putBack_at, wpS, wpSet, wpOpt, wpIte, wpLeave, test_def, boolK_t, boolK_f, kid0, kid1, kid2, frz_fz, shal_fz, frz_nil, shal_nil, frz_ints, shal_ints, varK_dk, nodeK_dk, getAt_nil, getAt_dk0, setAt_nil, setAt_dk0, putD_dk2, negK_int, notK_bool, cmp_eqI, cmp_neI, cmp_ltI, cmp_leI, cmp_gtI, cmp_geI, cmp_neN, tru_bool, add_int, sub_int, bi_intI, bi_intB, bi_absI, rngK_2, limE, wpBoolK, behind_rt0, behind_rtN, if_true, if_false, Bool.false_eq_true, Bool.not_true, Bool.not_false, Bool.true_eq_false, List.isEmpty_nil, List.isEmpty_cons, decide_true, decide_false, List.isEmpty, Nat.zero_le, decide_eq_true_eq, List.getElem?_cons_zero, List.getElem?_cons_succ, List.set_cons_zero, List.set_cons_succ, List.length_cons, List.length_nil, List.map_cons, List.map_nil, List.cons_append, List.nil_append, List.replicate, Nat.reduceAdd, Nat.reduceSub, Nat.reduceLT, Nat.reduceLeDiff, true_and, and_true, hr]
  refine for_range (fun l e => ∃ x4 x5 x6, e = [some (.fz (.int W)), some (.fz (.int a)), some (.fz (.int b)), some (.fz (.int (Builtin.bitAnd a b % 2 ^ l))), x4, x5, x6]) w (fun l e hlw h => ?_) (fun e h => ?_) _ ⟨none, none, none, by simp [Int.emod_one]⟩
  · obtain ⟨x4, x5, x6, rfl⟩ := h
    have hp := kbt_pos l
    have lg : ((2 : Int) ^ l).natAbs.log2 < 9000 := by
      have e1 : ((2 : Int) ^ l).natAbs = 2 ^ l := by rw [← kbt_cast]; exact Int.natAbs_natCast _
      rw [e1, Nat.log2_two_pow]; omega
    have s1 : binD .shl (.int 1) (.int (l : Int)) = some (.fz (.int (2 ^ l))) := by rw [shl_int (by decide) (by omega), Int.one_mul]
    have s3 : ∀ y : Int, binD .fdiv (.int y) (.int (2 ^ l)) = some (.fz (.int (y / 2 ^ l))) := fun y => div_int hp lg
    have hx := mod_succ (Builtin.bitAnd a b) l
    rw [bit_and2] at hx
    unfold bit at hx
    have s5 : binD .mul (.int (a / 2 ^ l % 2)) (.int (b / 2 ^ l % 2)) = some (.fz (.int (a / 2 ^ l % 2 * (b / 2 ^ l % 2)))) := mul_int (mulOk_l (by omega) (by omega))
    have s4 : binD .mul (.int (a / 2 ^ l % 2 * (b / 2 ^ l % 2))) (.int (2 ^ l)) = some (.fz (.int (a / 2 ^ l % 2 * (b / 2 ^ l % 2) * 2 ^ l))) := by
      have z : a / 2 ^ l % 2 * (b / 2 ^ l % 2) = 0 ∨ a / 2 ^ l % 2 * (b / 2 ^ l % 2) = 1 := by
        rcases Int.emod_two_eq (a / 2 ^ l) with x | x <;> rcases Int.emod_two_eq (b / 2 ^ l) with y | y <;> rw [x, y] <;> decide
      exact mul_int (mulOk_l (by omega) (by omega))
    generalize ((l : Nat) : Int) = Lv at s1 ⊢
    simp only [bind_bnd, wp_bnd, wp_ret, wp_bad, ev_var, ev_lit, ev_bin, ev_neg, ev_cmp, ev_and, ev_or, ev_not, ev_ite, ev_tup, ev_lst, ev_idx, ev_slc, ev_call, ev_kcall, ev_bi, ev_comp, ev_meth, evs_nil, evs_cons, evo_nil, evo_cons, evc_nil, evc_cons, evi_of, evi_rng, evi_enm, evi_zip, evi_rvs, exs_nil, exs_cons, ex_expr, ex_set, ex_unp, ex_par, ex_put, ex_ite, ex_whl, ex_fr, ex_rt, stores_nil, stores_var, opd_tmp, opd_at, val_tmp, val_atE, valD_def, see_fz, see_at, keep_fz, keep_at, give_fz, give_at, slotAt_def, varK_fz, varK_lst, idxK_fz, idxK_at, nodeK_fz, nodeK_lst, kidK_fz, kidK_lst, seeAll_nil, seeAll_cons, keepAll_nil, keepAll_cons, giveAll_nil, giveAll_cons, leave_tmp, leave_at, isLst_at, isAt_at, putAt_at, tgs_var, forL_nil, forL_cons, calling_none, calling_some, lend_noneE, lend_zero, lend_succ, lentK_fz, lentK_at, putBack_at, wpS, wpSet, wpOpt, wpIte, wpLeave, test_def, boolK_t, boolK_f, kid0, kid1, kid2, frz_fz, shal_fz, frz_nil, shal_nil, frz_ints, shal_ints, varK_dk, nodeK_dk, getAt_nil, getAt_dk0, setAt_nil, setAt_dk0, putD_dk2, negK_int, notK_bool, cmp_eqI, cmp_neI, cmp_ltI, cmp_leI, cmp_gtI, cmp_geI, cmp_neN, tru_bool, add_int, sub_int, bi_intI, bi_intB, bi_absI, rngK_2, limE, wpBoolK, behind_rt0, behind_rtN, if_true, if_false, Bool.false_eq_true, Bool.not_true, Bool.not_false, Bool.true_eq_false, List.isEmpty_nil, List.isEmpty_cons, decide_true, decide_false, List.isEmpty, Nat.zero_le, decide_eq_true_eq, List.getElem?_cons_zero, List.getElem?_cons_succ, List.set_cons_zero, List.set_cons_succ, List.length_cons, List.length_nil, List.map_cons, List.map_nil, List.cons_append, List.nil_append, List.replicate, Nat.reduceAdd, Nat.reduceSub, Nat.reduceLT, Nat.reduceLeDiff, true_and, and_true, tgs_v, sA_int, s1, s3, t2, s4, s5]
    rw [hx]
    exact ⟨_, _, _, rfl⟩
  · obtain ⟨x4, x5, x6, rfl⟩ := h
    simp only [bind_bnd, wp_bnd, wp_ret, wp_bad, ev_var, ev_lit, ev_bin, ev_neg, ev_cmp, ev_and, ev_or, ev_not, ev_ite, ev_tup, ev_lst, ev_idx, ev_slc, ev_call, ev_kcall, ev_bi, ev_comp, ev_meth, evs_nil, evs_cons, evo_nil, evo_cons, evc_nil, evc_cons, evi_of, evi_rng, evi_enm, evi_zip, evi_rvs, exs_nil, exs_cons, ex_expr, ex_set, ex_unp, ex_par, ex_put, ex_ite, ex_whl, ex_fr, ex_rt, stores_nil, stores_var, opd_tmp, opd_at, val_tmp, val_atE, valD_def, see_fz, see_at, keep_fz, keep_at, give_fz, give_at, slotAt_def, varK_fz, varK_lst, idxK_fz, idxK_at, nodeK_fz, nodeK_lst, kidK_fz, kidK_lst, seeAll_nil, seeAll_cons, keepAll_nil, keepAll_cons, giveAll_nil, giveAll_cons, leave_tmp, leave_at, isLst_at, isAt_at, putAt_at, tgs_var, forL_nil, forL_cons, calling_none, calling_some, lend_noneE, lend_zero, lend_succ, lentK_fz, lentK_at, putBack_at, wpS, wpSet, wpOpt, wpIte, wpLeave, test_def, boolK_t, boolK_f, kid0, kid1, kid2, frz_fz, shal_fz, frz_nil, shal_nil, frz_ints, shal_ints, varK_dk, nodeK_dk, getAt_nil, getAt_dk0, setAt_nil, setAt_dk0, putD_dk2, negK_int, notK_bool, cmp_eqI, cmp_neI, cmp_ltI, cmp_leI, cmp_gtI, cmp_geI, cmp_neN, tru_bool, add_int, sub_int, bi_intI, bi_intB, bi_absI, rngK_2, limE, wpBoolK, behind_rt0, behind_rtN, if_true, if_false, Bool.false_eq_true, Bool.not_true, Bool.not_false, Bool.true_eq_false, List.isEmpty_nil, List.isEmpty_cons, decide_true, decide_false, List.isEmpty, Nat.zero_le, decide_eq_true_eq, List.getElem?_cons_zero, List.getElem?_cons_succ, List.set_cons_zero, List.set_cons_succ, List.length_cons, List.length_nil, List.map_cons, List.map_nil, List.cons_append, List.nil_append, List.replicate, Nat.reduceAdd, Nat.reduceSub, Nat.reduceLT, Nat.reduceLeDiff, true_and, and_true]
end HW
end

section
set_option linter.all false
set_option maxHeartbeats 4000000
set_option maxRecDepth 4000
/-! # Plain: what is due of a deed -/
namespace HW
open PySem PyProof.Rows PySem.W L2
theorem and_wd {w : Nat} {x y : Int} (hx : 0 ≤ x ∧ x < 2 ^ w) (hy : 0 ≤ y) : 0 ≤ Builtin.bitAnd x y ∧ Builtin.bitAnd x y < 2 ^ w := by
  have h := bitAnd_pp hx.1 hy
  have h1 : x.toNat &&& y.toNat ≤ x.toNat := Nat.and_le_left
  rw [h]
  have e : ((x.toNat : Nat) : Int) = x := Int.toNat_of_nonneg hx.1
  omega
theorem xor_wd {w : Nat} {x y : Int} (hx : 0 ≤ x ∧ x < 2 ^ w) (hy : 0 ≤ y ∧ y < 2 ^ w) : 0 ≤ Builtin.bitXor x y ∧ Builtin.bitXor x y < 2 ^ w := by
  have h := Bits.bitXor_pp hx.1 hy.1
  have p : ((2 ^ w : Nat) : Int) = 2 ^ w := kbt_cast w
  have h1 : x.toNat ^^^ y.toNat < 2 ^ w := Nat.xor_lt_two_pow (by omega) (by omega)
  rw [h]
  omega
theorem xor_back {x y : Int} (hx : 0 ≤ x) (hy : 0 ≤ y) : Builtin.bitXor (Builtin.bitXor x y) y = x := by
  have h := Bits.bitXor_pp hx hy
  rw [h, Bits.bitXor_pp (by omega) hy, Int.toNat_natCast, Nat.xor_assoc, Nat.xor_self, Nat.xor_zero]
  omega
theorem wd_get {w : Nat} {ws : List Int} (h : Wd w ws) (i : Nat) : 0 ≤ ws.getD i 0 ∧ ws.getD i 0 < 2 ^ w := by
  rw [List.getD_eq_getElem?_getD]
  rcases Nat.lt_or_ge i ws.length with z | z
  · rw [List.getElem?_eq_getElem z]; exact h _ (List.getElem_mem z)
  · rw [List.getElem?_eq_none z]; exact ⟨Int.le_refl _, kbt_pos w⟩
theorem val_wd {w : Nat} {s : Int} {ws : List Int} (h : Wd w ws) (d : Deed) : 0 ≤ d.val w s ws ∧ d.val w s ws < 2 ^ w := by
  have hp := kbt_pos w
  cases d with
  | xor i j => exact xor_wd (wd_get h i) (wd_get h j)
  | and i j k => exact xor_wd (wd_get h i) (and_wd (wd_get h j) (wd_get h k).1)
  | add i j => exact ⟨Int.emod_nonneg _ (by omega), Int.emod_lt_of_pos _ hp⟩
  | one i => exact ⟨Int.emod_nonneg _ (by omega), Int.emod_lt_of_pos _ hp⟩
theorem wd_set {w : Nat} {ws : List Int} (h : Wd w ws) {i : Nat} {v : Int} (hv : 0 ≤ v ∧ v < 2 ^ w) : Wd w (ws.set i v) := fun x hx => by
  rcases List.mem_or_eq_of_mem_set hx with z | z
  · exact h x z
  · rw [z]; exact hv
theorem chg_wd {w : Nat} {s : Int} {ws : List Int} (h : Wd w ws) (d : Deed) : Wd w (chg w s ws d) := wd_set h (val_wd h d)
theorem xor_due {w : Nat} {x y : Int} (hx : 0 ≤ x ∧ x < 2 ^ w) (hy : 0 ≤ y ∧ y < 2 ^ w) : Builtin.bitXor x y % 2 ^ w = Builtin.bitXor x y := by
  have h := xor_wd hx hy
  exact Int.emod_eq_of_lt h.1 h.2
theorem and_due {w : Nat} {x y : Int} (hx : 0 ≤ x ∧ x < 2 ^ w) (hy : 0 ≤ y) : Builtin.bitAnd x y % 2 ^ w = Builtin.bitAnd x y := by
  have h := and_wd hx hy
  exact Int.emod_eq_of_lt h.1 h.2
theorem back_due {w : Nat} {x y : Int} : (x + (2 ^ w - 1 - y) + 1) % 2 ^ w = (x + -1 * y) % 2 ^ w := by
  rw [show x + (2 ^ w - 1 - y) + 1 = (x + -1 * y) + 2 ^ w by omega, Int.add_emod_right]
theorem law_due_ok {G : Nat → Option Fn} (h0 : G i_law_turned = some f_law_turned) (h1 : G i_law_shared_2 = some f_law_shared_2) (h2 : G i_law_sum = some f_law_sum) (hG : G i_law_due = some f_law_due) (w : Nat) {W : Int} (hW : W = w) (hw : w ≤ 1000) (ws : List Int) (hws : Wd w ws) (hl : ws.length ≤ 990) (d : Deed) (hd : d.ok ws.length) (back : Bool) {n : Nat} (hn : 2 ≤ n) :
    callN G n i_law_due [.fz (.int W), .fz (.tuple (intsL ws)), .fz d.data, .fz (.bool back)] = .ok (.fz (.tuple (intsL (chg w (if back then -1 else 1) ws d)))) none := by
  obtain ⟨n, rfl⟩ : ∃ m, n = m + 1 := ⟨n - 1, by omega⟩
  have m0 := muN h0
  have m1 := muN h1
  have m2 := muN h2
  have s1 : binD .shl (.int 1) (.int W) = some (.fz (.int (2 ^ w))) := by rw [hW, shl_int (by decide) (by omega), Int.one_mul]
  have q0 : ∀ a b : Int, callN G n i_law_turned [.fz (.int W), .fz (.int a), .fz (.int b)] = .ok (.fz (.int (Builtin.bitXor a b % 2 ^ w))) none := fun a b => law_turned_ok h0 w hW hw a b (by omega)
  have q1 : ∀ a b : Int, callN G n i_law_shared_2 [.fz (.int W), .fz (.int a), .fz (.int b)] = .ok (.fz (.int (Builtin.bitAnd a b % 2 ^ w))) none := fun a b => law_shared2_ok h1 w hW hw a b (by omega)
  have q2 : ∀ a b : Int, callN G n i_law_sum [.fz (.int W), .fz (.int a), .fz (.int b), .fz (.int 1)] = .ok (.fz (.int ((a + b + 1) % 2 ^ w))) none := fun a b => law_sum_ok h2 w hW hw a b 1 (by decide) (by omega)
  have q3 : ∀ a b : Int, callN G n i_law_sum [.fz (.int W), .fz (.int a), .fz (.int b), .fz (.int 0)] = .ok (.fz (.int ((a + b + 0) % 2 ^ w))) none := fun a b => law_sum_ok h2 w hW hw a b 0 (by decide) (by omega)
  have e1 : (sXor = sAnd) = False := by simp only [eq_iff_iff, iff_false]; decide
  have e2 : (sAnd = sXor) = False := by simp only [eq_iff_iff, iff_false]; decide
  have e3 : (sAdd = sAnd) = False := by simp only [eq_iff_iff, iff_false]; decide
  have e4 : (sAdd = sXor) = False := by simp only [eq_iff_iff, iff_false]; decide
  have e5 : (sOne = sAnd) = False := by simp only [eq_iff_iff, iff_false]; decide
  have e6 : (sOne = sXor) = False := by simp only [eq_iff_iff, iff_false]; decide
  have e7 : (sAdd = sOne) = False := by simp only [eq_iff_iff, iff_false]; decide
  have lm : 1 ≤ lim := lim_big (by decide)
  have x0 : ∀ a : PyData, ∀ r, idxD (.tuple (a :: r)) (.int 0) = some a := fun a r => idx_tup (i := 0) rfl
  have x1 : ∀ a b : PyData, ∀ r, idxD (.tuple (a :: b :: r)) (.int 1) = some b := fun a b r => idx_tup (i := 1) rfl
  have x2 : ∀ a b c : PyData, ∀ r, idxD (.tuple (a :: b :: c :: r)) (.int 2) = some c := fun a b c r => idx_tup (i := 2) rfl
  have x3 : ∀ a b c d : PyData, ∀ r, idxD (.tuple (a :: b :: c :: d :: r)) (.int 3) = some d := fun a b c d r => idx_tup (i := 3) rfl
  refine call_wp hG rfl ?_
  clear hW
  cases d with
  | xor i j =>
    obtain ⟨h1, h2, h3⟩ := hd
    obtain ⟨I, hI⟩ : ∃ I : Int, I = i := ⟨_, rfl⟩
    obtain ⟨J, hJ⟩ : ∃ I : Int, I = j := ⟨_, rfl⟩
    have a1 := idx_intsT hI h1
    have a2 := idx_intsT hJ h2
    have dd := xor_due (wd_get hws i) (wd_get hws j)
    obtain ⟨c1, c2, c3, c4⟩ := fresh_ok (v := (Deed.xor i j).val w (if back then -1 else 1) ws) hI h1 hl
    show wp _ [some (.fz (.int W)), some (.fz (.tuple (intsL ws))), some (.fz (.tuple [.str sXor, .int i, .int j])), some (.fz (.bool back)), none, none, none, none] _
    rw [← hI, ← hJ]
    clear hI hJ
    unfold Deed.val at c3 c4
    simp only [f_law_due, bind_bnd, wp_bnd, wp_ret, wp_bad, ev_var, ev_lit, ev_bin, ev_neg, ev_cmp, ev_and, ev_or, ev_not, ev_ite, ev_tup, ev_lst, ev_idx, ev_slc, ev_call, ev_kcall, ev_bi, ev_comp, ev_meth, evs_nil, evs_cons, evo_nil, evo_cons, evc_nil, evc_cons, evi_of, evi_rng, evi_enm, evi_zip, evi_rvs, exs_nil, exs_cons, ex_expr, ex_set, ex_unp, ex_par, ex_put, ex_ite, ex_whl, ex_fr, ex_rt, stores_nil, stores_var, opd_tmp, opd_at, val_tmp, val_atE, valD_def, see_fz, see_at, keep_fz, keep_at, give_fz, give_at, slotAt_def, varK_fz, varK_lst, idxK_fz, idxK_at, nodeK_fz, nodeK_lst, kidK_fz, kidK_lst, seeAll_nil, seeAll_cons, keepAll_nil, keepAll_cons, giveAll_nil, giveAll_cons, leave_tmp, leave_at, isLst_at, isAt_at, putAt_at, tgs_var, forL_nil, forL_cons, calling_none, calling_some, lend_noneE, lend_zero, lend_succ, lentK_fz, lentK_at, putBack_at, wpS, wpSet, wpOpt, wpIte, wpLeave, test_def, boolK_t, boolK_f, kid0, kid1, kid2, frz_fz, shal_fz, frz_nil, shal_nil, frz_ints, shal_ints, varK_dk, nodeK_dk, getAt_nil, getAt_dk0, setAt_nil, setAt_dk0, putD_dk2, negK_int, notK_bool, cmp_eqI, cmp_neI, cmp_ltI, cmp_leI, cmp_gtI, cmp_geI, cmp_neN, tru_bool, add_int, sub_int, bi_intI, bi_intB, bi_absI, rngK_2, limE, wpBoolK, behind_rt0, behind_rtN, if_true, if_false, Bool.false_eq_true, Bool.not_true, Bool.not_false, Bool.true_eq_false, List.isEmpty_nil, List.isEmpty_cons, decide_true, decide_false, List.isEmpty, Nat.zero_le, decide_eq_true_eq, List.getElem?_cons_zero, List.getElem?_cons_succ, List.set_cons_zero, List.set_cons_succ, List.length_cons, List.length_nil, List.map_cons, List.map_nil, List.cons_append, List.nil_append, List.replicate, Nat.reduceAdd, Nat.reduceSub, Nat.reduceLT, Nat.reduceLeDiff, true_and, and_true, x0, x1, x2, cmp_eqS, a1, a2, m0, q0, dd, cutP_def, cutEnds_nil, cutEnds_one, cutD_tup, c1, c2, len1, lm, List.length_cons, c3, c4]
    rfl
  | and i j k =>
    obtain ⟨h1, h2, h3, h4, h5⟩ := hd
    obtain ⟨I, hI⟩ : ∃ I : Int, I = i := ⟨_, rfl⟩
    obtain ⟨J, hJ⟩ : ∃ I : Int, I = j := ⟨_, rfl⟩
    obtain ⟨K, hK⟩ : ∃ I : Int, I = k := ⟨_, rfl⟩
    have a1 := idx_intsT hI h1
    have a2 := idx_intsT hJ h2
    have a3 := idx_intsT hK h3
    have da := and_due (wd_get hws j) (wd_get hws k).1
    have dd := xor_due (wd_get hws i) (and_wd (wd_get hws j) (wd_get hws k).1)
    obtain ⟨c1, c2, c3, c4⟩ := fresh_ok (v := (Deed.and i j k).val w (if back then -1 else 1) ws) hI h1 hl
    show wp _ [some (.fz (.int W)), some (.fz (.tuple (intsL ws))), some (.fz (.tuple [.str sAnd, .int i, .int j, .int k])), some (.fz (.bool back)), none, none, none, none] _
    rw [← hI, ← hJ, ← hK]
    clear hI hJ hK
    unfold Deed.val at c3 c4
    simp only [f_law_due, bind_bnd, wp_bnd, wp_ret, wp_bad, ev_var, ev_lit, ev_bin, ev_neg, ev_cmp, ev_and, ev_or, ev_not, ev_ite, ev_tup, ev_lst, ev_idx, ev_slc, ev_call, ev_kcall, ev_bi, ev_comp, ev_meth, evs_nil, evs_cons, evo_nil, evo_cons, evc_nil, evc_cons, evi_of, evi_rng, evi_enm, evi_zip, evi_rvs, exs_nil, exs_cons, ex_expr, ex_set, ex_unp, ex_par, ex_put, ex_ite, ex_whl, ex_fr, ex_rt, stores_nil, stores_var, opd_tmp, opd_at, val_tmp, val_atE, valD_def, see_fz, see_at, keep_fz, keep_at, give_fz, give_at, slotAt_def, varK_fz, varK_lst, idxK_fz, idxK_at, nodeK_fz, nodeK_lst, kidK_fz, kidK_lst, seeAll_nil, seeAll_cons, keepAll_nil, keepAll_cons, giveAll_nil, giveAll_cons, leave_tmp, leave_at, isLst_at, isAt_at, putAt_at, tgs_var, forL_nil, forL_cons, calling_none, calling_some, lend_noneE, lend_zero, lend_succ, lentK_fz, lentK_at, putBack_at, wpS, wpSet, wpOpt, wpIte, wpLeave, test_def, boolK_t, boolK_f, kid0, kid1, kid2, frz_fz, shal_fz, frz_nil, shal_nil, frz_ints, shal_ints, varK_dk, nodeK_dk, getAt_nil, getAt_dk0, setAt_nil, setAt_dk0, putD_dk2, negK_int, notK_bool, cmp_eqI, cmp_neI, cmp_ltI, cmp_leI, cmp_gtI, cmp_geI, cmp_neN, tru_bool, add_int, sub_int, bi_intI, bi_intB, bi_absI, rngK_2, limE, wpBoolK, behind_rt0, behind_rtN, if_true, if_false, Bool.false_eq_true, Bool.not_true, Bool.not_false, Bool.true_eq_false, List.isEmpty_nil, List.isEmpty_cons, decide_true, decide_false, List.isEmpty, Nat.zero_le, decide_eq_true_eq, List.getElem?_cons_zero, List.getElem?_cons_succ, List.set_cons_zero, List.set_cons_succ, List.length_cons, List.length_nil, List.map_cons, List.map_nil, List.cons_append, List.nil_append, List.replicate, Nat.reduceAdd, Nat.reduceSub, Nat.reduceLT, Nat.reduceLeDiff, true_and, and_true, x0, x1, x2, x3, cmp_eqS, e2, a1, a2, a3, m0, m1, q0, q1, da, dd, cutP_def, cutEnds_nil, cutEnds_one, cutD_tup, c1, c2, len1, lm, List.length_cons, c3, c4]
    rfl
  | add i j =>
    obtain ⟨h1, h2, h3⟩ := hd
    obtain ⟨I, hI⟩ : ∃ I : Int, I = i := ⟨_, rfl⟩
    obtain ⟨J, hJ⟩ : ∃ I : Int, I = j := ⟨_, rfl⟩
    have a1 := idx_intsT hI h1
    have a2 := idx_intsT hJ h2
    have hv : (if back = true then (ws.getD i 0 + (2 ^ w - 1 - ws.getD j 0) + 1) % 2 ^ w else (ws.getD i 0 + ws.getD j 0 + 0) % 2 ^ w) = (Deed.add i j).val w (if back then -1 else 1) ws := by
      cases back with
      | true => exact back_due
      | false => show (_ + _ + 0) % _ = (_ + 1 * _) % _; rw [Int.one_mul, Int.add_zero]
    obtain ⟨c1, c2, c3, c4⟩ := fresh_ok (v := (Deed.add i j).val w (if back then -1 else 1) ws) hI h1 hl
    rw [← hv] at c3 c4
    show wp _ [some (.fz (.int W)), some (.fz (.tuple (intsL ws))), some (.fz (.tuple [.str sAdd, .int i, .int j])), some (.fz (.bool back)), none, none, none, none] fun f e' => behind f_law_due (.ok f e') = .ok (.fz (.tuple (intsL (ws.set i ((Deed.add i j).val w (if back then -1 else 1) ws))))) none
    rw [← hI, ← hJ, ← hv]
    clear hI hJ hv
    cases back with
    | true =>
      simp only [if_true] at c3 c4
      simp only [f_law_due, bind_bnd, wp_bnd, wp_ret, wp_bad, ev_var, ev_lit, ev_bin, ev_neg, ev_cmp, ev_and, ev_or, ev_not, ev_ite, ev_tup, ev_lst, ev_idx, ev_slc, ev_call, ev_kcall, ev_bi, ev_comp, ev_meth, evs_nil, evs_cons, evo_nil, evo_cons, evc_nil, evc_cons, evi_of, evi_rng, evi_enm, evi_zip, evi_rvs, exs_nil, exs_cons, ex_expr, ex_set, ex_unp, ex_par, ex_put, ex_ite, ex_whl, ex_fr, ex_rt, stores_nil, stores_var, opd_tmp, opd_at, val_tmp, val_atE, valD_def, see_fz, see_at, keep_fz, keep_at, give_fz, give_at, slotAt_def, varK_fz, varK_lst, idxK_fz, idxK_at, nodeK_fz, nodeK_lst, kidK_fz, kidK_lst, seeAll_nil, seeAll_cons, keepAll_nil, keepAll_cons, giveAll_nil, giveAll_cons, leave_tmp, leave_at, isLst_at, isAt_at, putAt_at, tgs_var, forL_nil, forL_cons, calling_none, calling_some, lend_noneE, lend_zero, lend_succ, lentK_fz, lentK_at, putBack_at, wpS, wpSet, wpOpt, wpIte, wpLeave, test_def, boolK_t, boolK_f, kid0, kid1, kid2, frz_fz, shal_fz, frz_nil, shal_nil, frz_ints, shal_ints, varK_dk, nodeK_dk, getAt_nil, getAt_dk0, setAt_nil, setAt_dk0, putD_dk2, negK_int, notK_bool, cmp_eqI, cmp_neI, cmp_ltI, cmp_leI, cmp_gtI, cmp_geI, cmp_neN, tru_bool, add_int, sub_int, bi_intI, bi_intB, bi_absI, rngK_2, limE, wpBoolK, behind_rt0, behind_rtN, if_true, if_false, Bool.false_eq_true, Bool.not_true, Bool.not_false, Bool.true_eq_false, List.isEmpty_nil, List.isEmpty_cons, decide_true, decide_false, List.isEmpty, Nat.zero_le, decide_eq_true_eq, List.getElem?_cons_zero, List.getElem?_cons_succ, List.set_cons_zero, List.set_cons_succ, List.length_cons, List.length_nil, List.map_cons, List.map_nil, List.cons_append, List.nil_append, List.replicate, Nat.reduceAdd, Nat.reduceSub, Nat.reduceLT, Nat.reduceLeDiff, true_and, and_true, x0, x1, x2, cmp_eqS, e3, e4, e7, a1, a2, s1, m2, q2, cutP_def, cutEnds_nil, cutEnds_one, cutD_tup, c1, c2, len1, lm, List.length_cons, c3, c4]
    | false =>
      simp only [Bool.false_eq_true, if_false] at c3 c4
      simp only [f_law_due, bind_bnd, wp_bnd, wp_ret, wp_bad, ev_var, ev_lit, ev_bin, ev_neg, ev_cmp, ev_and, ev_or, ev_not, ev_ite, ev_tup, ev_lst, ev_idx, ev_slc, ev_call, ev_kcall, ev_bi, ev_comp, ev_meth, evs_nil, evs_cons, evo_nil, evo_cons, evc_nil, evc_cons, evi_of, evi_rng, evi_enm, evi_zip, evi_rvs, exs_nil, exs_cons, ex_expr, ex_set, ex_unp, ex_par, ex_put, ex_ite, ex_whl, ex_fr, ex_rt, stores_nil, stores_var, opd_tmp, opd_at, val_tmp, val_atE, valD_def, see_fz, see_at, keep_fz, keep_at, give_fz, give_at, slotAt_def, varK_fz, varK_lst, idxK_fz, idxK_at, nodeK_fz, nodeK_lst, kidK_fz, kidK_lst, seeAll_nil, seeAll_cons, keepAll_nil, keepAll_cons, giveAll_nil, giveAll_cons, leave_tmp, leave_at, isLst_at, isAt_at, putAt_at, tgs_var, forL_nil, forL_cons, calling_none, calling_some, lend_noneE, lend_zero, lend_succ, lentK_fz, lentK_at, putBack_at, wpS, wpSet, wpOpt, wpIte, wpLeave, test_def, boolK_t, boolK_f, kid0, kid1, kid2, frz_fz, shal_fz, frz_nil, shal_nil, frz_ints, shal_ints, varK_dk, nodeK_dk, getAt_nil, getAt_dk0, setAt_nil, setAt_dk0, putD_dk2, negK_int, notK_bool, cmp_eqI, cmp_neI, cmp_ltI, cmp_leI, cmp_gtI, cmp_geI, cmp_neN, tru_bool, add_int, sub_int, bi_intI, bi_intB, bi_absI, rngK_2, limE, wpBoolK, behind_rt0, behind_rtN, if_true, if_false, Bool.false_eq_true, Bool.not_true, Bool.not_false, Bool.true_eq_false, List.isEmpty_nil, List.isEmpty_cons, decide_true, decide_false, List.isEmpty, Nat.zero_le, decide_eq_true_eq, List.getElem?_cons_zero, List.getElem?_cons_succ, List.set_cons_zero, List.set_cons_succ, List.length_cons, List.length_nil, List.map_cons, List.map_nil, List.cons_append, List.nil_append, List.replicate, Nat.reduceAdd, Nat.reduceSub, Nat.reduceLT, Nat.reduceLeDiff, true_and, and_true, x0, x1, x2, cmp_eqS, e3, e4, e7, a1, a2, s1, m2, q3, cutP_def, cutEnds_nil, cutEnds_one, cutD_tup, c1, c2, len1, lm, List.length_cons, c3, c4]
  | one i =>
    have h1 : i < ws.length := hd
    obtain ⟨I, hI⟩ : ∃ I : Int, I = i := ⟨_, rfl⟩
    have a1 := idx_intsT hI h1
    have hv : (if back = true then (ws.getD i 0 + (2 ^ w - 1 - 1) + 1) % 2 ^ w else (ws.getD i 0 + 1 + 0) % 2 ^ w) = (Deed.one i).val w (if back then -1 else 1) ws := by
      cases back with
      | true => exact back_due
      | false => show (_ + 1 + 0) % _ = (_ + 1 * 1) % _; rw [Int.one_mul, Int.add_zero]
    obtain ⟨c1, c2, c3, c4⟩ := fresh_ok (v := (Deed.one i).val w (if back then -1 else 1) ws) hI h1 hl
    rw [← hv] at c3 c4
    show wp _ [some (.fz (.int W)), some (.fz (.tuple (intsL ws))), some (.fz (.tuple [.str sOne, .int i])), some (.fz (.bool back)), none, none, none, none] fun f e' => behind f_law_due (.ok f e') = .ok (.fz (.tuple (intsL (ws.set i ((Deed.one i).val w (if back then -1 else 1) ws))))) none
    rw [← hI, ← hv]
    clear hI hv
    cases back with
    | true =>
      simp only [if_true] at c3 c4
      simp only [f_law_due, bind_bnd, wp_bnd, wp_ret, wp_bad, ev_var, ev_lit, ev_bin, ev_neg, ev_cmp, ev_and, ev_or, ev_not, ev_ite, ev_tup, ev_lst, ev_idx, ev_slc, ev_call, ev_kcall, ev_bi, ev_comp, ev_meth, evs_nil, evs_cons, evo_nil, evo_cons, evc_nil, evc_cons, evi_of, evi_rng, evi_enm, evi_zip, evi_rvs, exs_nil, exs_cons, ex_expr, ex_set, ex_unp, ex_par, ex_put, ex_ite, ex_whl, ex_fr, ex_rt, stores_nil, stores_var, opd_tmp, opd_at, val_tmp, val_atE, valD_def, see_fz, see_at, keep_fz, keep_at, give_fz, give_at, slotAt_def, varK_fz, varK_lst, idxK_fz, idxK_at, nodeK_fz, nodeK_lst, kidK_fz, kidK_lst, seeAll_nil, seeAll_cons, keepAll_nil, keepAll_cons, giveAll_nil, giveAll_cons, leave_tmp, leave_at, isLst_at, isAt_at, putAt_at, tgs_var, forL_nil, forL_cons, calling_none, calling_some, lend_noneE, lend_zero, lend_succ, lentK_fz, lentK_at, putBack_at, wpS, wpSet, wpOpt, wpIte, wpLeave, test_def, boolK_t, boolK_f, kid0, kid1, kid2, frz_fz, shal_fz, frz_nil, shal_nil, frz_ints, shal_ints, varK_dk, nodeK_dk, getAt_nil, getAt_dk0, setAt_nil, setAt_dk0, putD_dk2, negK_int, notK_bool, cmp_eqI, cmp_neI, cmp_ltI, cmp_leI, cmp_gtI, cmp_geI, cmp_neN, tru_bool, add_int, sub_int, bi_intI, bi_intB, bi_absI, rngK_2, limE, wpBoolK, behind_rt0, behind_rtN, if_true, if_false, Bool.false_eq_true, Bool.not_true, Bool.not_false, Bool.true_eq_false, List.isEmpty_nil, List.isEmpty_cons, decide_true, decide_false, List.isEmpty, Nat.zero_le, decide_eq_true_eq, List.getElem?_cons_zero, List.getElem?_cons_succ, List.set_cons_zero, List.set_cons_succ, List.length_cons, List.length_nil, List.map_cons, List.map_nil, List.cons_append, List.nil_append, List.replicate, Nat.reduceAdd, Nat.reduceSub, Nat.reduceLT, Nat.reduceLeDiff, true_and, and_true, x0, x1, x2, cmp_eqS, e5, e6, a1, s1, m2, q2, cutP_def, cutEnds_nil, cutEnds_one, cutD_tup, c1, c2, len1, lm, List.length_cons, c3, c4]
    | false =>
      simp only [Bool.false_eq_true, if_false] at c3 c4
      simp only [f_law_due, bind_bnd, wp_bnd, wp_ret, wp_bad, ev_var, ev_lit, ev_bin, ev_neg, ev_cmp, ev_and, ev_or, ev_not, ev_ite, ev_tup, ev_lst, ev_idx, ev_slc, ev_call, ev_kcall, ev_bi, ev_comp, ev_meth, evs_nil, evs_cons, evo_nil, evo_cons, evc_nil, evc_cons, evi_of, evi_rng, evi_enm, evi_zip, evi_rvs, exs_nil, exs_cons, ex_expr, ex_set, ex_unp, ex_par, ex_put, ex_ite, ex_whl, ex_fr, ex_rt, stores_nil, stores_var, opd_tmp, opd_at, val_tmp, val_atE, valD_def, see_fz, see_at, keep_fz, keep_at, give_fz, give_at, slotAt_def, varK_fz, varK_lst, idxK_fz, idxK_at, nodeK_fz, nodeK_lst, kidK_fz, kidK_lst, seeAll_nil, seeAll_cons, keepAll_nil, keepAll_cons, giveAll_nil, giveAll_cons, leave_tmp, leave_at, isLst_at, isAt_at, putAt_at, tgs_var, forL_nil, forL_cons, calling_none, calling_some, lend_noneE, lend_zero, lend_succ, lentK_fz, lentK_at, putBack_at, wpS, wpSet, wpOpt, wpIte, wpLeave, test_def, boolK_t, boolK_f, kid0, kid1, kid2, frz_fz, shal_fz, frz_nil, shal_nil, frz_ints, shal_ints, varK_dk, nodeK_dk, getAt_nil, getAt_dk0, setAt_nil, setAt_dk0, putD_dk2, negK_int, notK_bool, cmp_eqI, cmp_neI, cmp_ltI, cmp_leI, cmp_gtI, cmp_geI, cmp_neN, tru_bool, add_int, sub_int, bi_intI, bi_intB, bi_absI, rngK_2, limE, wpBoolK, behind_rt0, behind_rtN, if_true, if_false, Bool.false_eq_true, Bool.not_true, Bool.not_false, Bool.true_eq_false, List.isEmpty_nil, List.isEmpty_cons, decide_true, decide_false, List.isEmpty, Nat.zero_le, decide_eq_true_eq, List.getElem?_cons_zero, List.getElem?_cons_succ, List.set_cons_zero, List.set_cons_succ, List.length_cons, List.length_nil, List.map_cons, List.map_nil, List.cons_append, List.nil_append, List.replicate, Nat.reduceAdd, Nat.reduceSub, Nat.reduceLT, Nat.reduceLeDiff, true_and, and_true, x0, x1, x2, cmp_eqS, e5, e6, a1, s1, m2, q3, cutP_def, cutEnds_nil, cutEnds_one, cutD_tup, c1, c2, len1, lm, List.length_cons, c3, c4]
end HW
end

section
set_option linter.all false
set_option maxHeartbeats 4000000
set_option maxRecDepth 4000
/-! # Plain: deeds undone; what may be shown of them -/
namespace HW
open PySem PyProof.Rows PySem.W
theorem getD_set_self {ws : List Int} {i : Nat} {v : Int} (h : i < ws.length) : (ws.set i v).getD i 0 = v := by
  rw [List.getD_eq_getElem?_getD, List.getElem?_set_self h]; rfl
theorem getD_set_ne {ws : List Int} {i j : Nat} {v : Int} (h : i ≠ j) : (ws.set i v).getD j 0 = ws.getD j 0 := by
  rw [List.getD_eq_getElem?_getD, List.getElem?_set_ne h, ← List.getD_eq_getElem?_getD]
theorem set_getD {ws : List Int} {i : Nat} (h : i < ws.length) : ws.set i (ws.getD i 0) = ws := by
  rw [List.getD_eq_getElem?_getD, List.getElem?_eq_getElem h]
  exact List.set_getElem_self h
theorem mod_back {x y m : Int} (h0 : 0 ≤ x) (h1 : x < m) : ((x + y) % m + -y) % m = x := by
  have e := Int.mul_ediv_add_emod (x + y) m
  rw [show (x + y) % m + -y = x + m * (-((x + y) / m)) by rw [Int.mul_neg]; omega, Int.add_mul_emod_self_left]
  exact Int.emod_eq_of_lt h0 h1
theorem at_lt {n : Nat} {d : Deed} (h : d.ok n) : d.at < n := by
  cases d with
  | xor i j => exact h.1
  | and i j k => exact h.1
  | add i j => exact h.1
  | one i => exact h
theorem val_back {w : Nat} {s : Int} {ws : List Int} (h : Wd w ws) {d : Deed} (hd : d.ok ws.length) : d.val w (-s) (chg w s ws d) = ws.getD d.at 0 := by
  have hl := at_lt hd
  cases d with
  | xor i j =>
    obtain ⟨h1, h2, h3⟩ := hd
    show Builtin.bitXor ((ws.set i _).getD i 0) ((ws.set i _).getD j 0) = ws.getD i 0
    rw [getD_set_self h1, getD_set_ne h3]
    exact xor_back (wd_get h i).1 (wd_get h j).1
  | and i j k =>
    obtain ⟨h1, h2, h3, h4, h5⟩ := hd
    show Builtin.bitXor ((ws.set i _).getD i 0) (Builtin.bitAnd ((ws.set i _).getD j 0) ((ws.set i _).getD k 0)) = ws.getD i 0
    rw [getD_set_self h1, getD_set_ne h4, getD_set_ne h5]
    exact xor_back (wd_get h i).1 (and_wd (wd_get h j) (wd_get h k).1).1
  | add i j =>
    obtain ⟨h1, h2, h3⟩ := hd
    show ((ws.set i _).getD i 0 + -s * (ws.set i _).getD j 0) % 2 ^ w = ws.getD i 0
    rw [getD_set_self h1, getD_set_ne h3]
    show ((ws.getD i 0 + s * ws.getD j 0) % 2 ^ w + -s * ws.getD j 0) % 2 ^ w = _
    rw [Int.neg_mul]
    exact mod_back (wd_get h i).1 (wd_get h i).2
  | one i =>
    show ((ws.set i _).getD i 0 + -s * 1) % 2 ^ w = ws.getD i 0
    rw [getD_set_self hd]
    show ((ws.getD i 0 + s * 1) % 2 ^ w + -s * 1) % 2 ^ w = _
    rw [Int.neg_mul]
    exact mod_back (wd_get h i).1 (wd_get h i).2
theorem chg_back {w : Nat} {s : Int} {ws : List Int} (h : Wd w ws) {d : Deed} (hd : d.ok ws.length) : chg w (-s) (chg w s ws d) d = ws := by
  show (chg w s ws d).set d.at (d.val w (-s) (chg w s ws d)) = ws
  rw [val_back h hd]
  show (ws.set d.at _).set d.at _ = ws
  rw [List.set_set, set_getD (at_lt hd)]
theorem chg_twice {w : Nat} {ws : List Int} (h : Wd w ws) {d : Deed} (hd : d.ok ws.length) (hx : d.word = sXor ∨ d.word = sAnd) : chg w 1 (chg w 1 ws d) d = ws := by
  have e := chg_back (s := 1) h hd
  cases d with
  | xor i j => exact e
  | and i j k => exact e
  | add i j => exact absurd hx (by show ¬ (sAdd = sXor ∨ sAdd = sAnd); decide)
  | one i => exact absurd hx (by show ¬ (sOne = sXor ∨ sOne = sAnd); decide)
/-- a sum so often -/
def Deed.more (ws : List Int) : Deed → Int
  | .add _ j => ws.getD j 0
  | _ => 1
theorem chg_often {w : Nat} {ws : List Int} {d : Deed} (hd : d.ok ws.length) (hx : d.word = sAdd ∨ d.word = sOne) (t : Nat) : chg w 1 (ws.set d.at ((ws.getD d.at 0 + t * d.more ws) % 2 ^ w)) d = ws.set d.at ((ws.getD d.at 0 + (t + 1 : Nat) * d.more ws) % 2 ^ w) := by
  have hl := at_lt hd
  have key : ∀ x y : Int, ((x + t * y) % 2 ^ w + 1 * y) % 2 ^ w = (x + (t + 1 : Nat) * y) % 2 ^ w := fun x y => by
    rw [Int.one_mul, Int.emod_add_emod, Int.natCast_add, Int.add_mul, ← Int.add_assoc]
    congr 2
    simp
  cases d with
  | xor i j => exact absurd hx (by show ¬ (sXor = sAdd ∨ sXor = sOne); decide)
  | and i j k => exact absurd hx (by show ¬ (sAnd = sAdd ∨ sAnd = sOne); decide)
  | add i j =>
    obtain ⟨h1, h2, h3⟩ := hd
    show (ws.set i _).set i (((ws.set i _).getD i 0 + 1 * (ws.set i _).getD j 0) % 2 ^ w) = ws.set i _
    rw [List.set_set, getD_set_self h1, getD_set_ne h3]
    show ws.set i (((ws.getD i 0 + t * ws.getD j 0) % 2 ^ w + 1 * ws.getD j 0) % 2 ^ w) = _
    rw [key]; rfl
  | one i =>
    show (ws.set i _).set i (((ws.set i _).getD i 0 + 1 * 1) % 2 ^ w) = ws.set i _
    rw [List.set_set, getD_set_self hd]
    show ws.set i (((ws.getD i 0 + t * 1) % 2 ^ w + 1 * 1) % 2 ^ w) = _
    rw [key]; rfl
theorem often_0 {w : Nat} {ws : List Int} (h : Wd w ws) {d : Deed} (hd : d.ok ws.length) : ws.set d.at ((ws.getD d.at 0 + (0 : Nat) * d.more ws) % 2 ^ w) = ws := by
  have h1 := wd_get h d.at
  rw [show ws.getD d.at 0 + ((0 : Nat) : Int) * d.more ws = ws.getD d.at 0 by simp, Int.emod_eq_of_lt h1.1 h1.2, set_getD (at_lt hd)]
theorem often_all {w : Nat} {ws : List Int} (h : Wd w ws) {d : Deed} (hd : d.ok ws.length) : ws.set d.at ((ws.getD d.at 0 + ((2 ^ w : Nat) : Int) * d.more ws) % 2 ^ w) = ws := by
  have h1 := wd_get h d.at
  rw [kbt_cast, Int.add_mul_emod_self_left, Int.emod_eq_of_lt h1.1 h1.2, set_getD (at_lt hd)]
/-! ## what may be shown -/
theorem Sm.str {x : Str} {k : Nat} (h : (PyData.str x).canLay0 = true := by decide +kernel) : Sm k x.cps.size (.str x) := ⟨h, rfl, Nat.zero_le _, rfl, Nat.le_refl _⟩
theorem Sm.nat {i k : Nat} (h : i ≤ 1000) : Sm k 65 (.int (i : Int)) := Sm.int (by omega)
theorem deed_small {n : Nat} (hn : n ≤ 1000) {d : Deed} (hd : d.ok n) : Sm 60 210 d.data := by
  cases d with
  | xor i j =>
    obtain ⟨h1, h2, h3⟩ := hd
    exact (SmA.tup (SmA.cons (k := 59) Sm.str (SmA.cons (Sm.nat (by omega)) (SmA.cons (Sm.nat (by omega)) (SmA.nil (n := 0)))))).mono (by decide) (by decide)
  | and i j k =>
    obtain ⟨h1, h2, h3, h4, h5⟩ := hd
    exact (SmA.tup (SmA.cons (k := 59) Sm.str (SmA.cons (Sm.nat (by omega)) (SmA.cons (Sm.nat (by omega)) (SmA.cons (Sm.nat (by omega)) (SmA.nil (n := 0))))))).mono (by decide) (by decide)
  | add i j =>
    obtain ⟨h1, h2, h3⟩ := hd
    exact (SmA.tup (SmA.cons (k := 59) Sm.str (SmA.cons (Sm.nat (by omega)) (SmA.cons (Sm.nat (by omega)) (SmA.nil (n := 0)))))).mono (by decide) (by decide)
  | one i =>
    have h1 : i < n := hd
    exact (SmA.tup (SmA.cons (k := 59) Sm.str (SmA.cons (Sm.nat (by omega)) (SmA.nil (n := 0))))).mono (by decide) (by decide)
theorem tup_small {cs : List Int} (h : ∀ x ∈ cs, x.natAbs < 2 ^ 65) (hl : cs.length ≤ 64) : Sm 60 5000 (.tuple (intsL cs)) :=
  (SmA.tup (SmA.ints (k := 59) h)).mono (Nat.le_refl _) (by omega)
theorem pow_le_64 {w : Nat} (h : w ≤ 64) : (2 : Int) ^ w ≤ 2 ^ 64 := by
  rcases Nat.lt_or_ge w 64 with z | z
  · exact Int.le_of_lt (pow_lt_pow z)
  · rw [show w = 64 by omega]; exact Int.le_refl _
theorem wd_small {w : Nat} (h : w ≤ 64) {ws : List Int} (hw : Wd w ws) : ∀ x ∈ ws, x.natAbs < 2 ^ 65 := fun x hx => by
  have h1 := hw x hx
  have h2 := pow_le_64 h
  omega
theorem state_small {w : Nat} (h : w ≤ 64) {ws : List Int} (hw : Wd w ws) (hl : ws.length ≤ 64) : Sm 60 5000 (.tuple (intsL ws)) := tup_small (wd_small h hw) hl
theorem cmp_neStr {x : Str} : cmpD .ne (.str x) (.str x) = some false := by
  show (some (decide (x = x))).map not = _
  rw [decide_eq_true rfl]; rfl
theorem cmp_eqStr {x : Str} : cmpD .eq (.str x) (.str x) = some true := by
  show some (decide (x = x)) = _
  rw [decide_eq_true rfl]
theorem frz_2 {a b : PyData} : frz (.lst [.fz a, .fz b]) = some (.list [a, b]) := rfl
theorem perm3 {a b c : Opd} : ([2, 1, 0].mapM fun k => [a, b, c][k]?) = some [c, b, a] := rfl
end HW
end

section
set_option linter.all false
set_option maxHeartbeats 8000000
set_option maxRecDepth 4000
/-! # Plain: k05's deeds are right -/
namespace HW
open PySem PyProof.Rows PySem.W
structure Tab5 (G : Nat → Option Fn) : Prop where
  c0 : G i_changed = some f_changed
  c1 : G i_done = some f_done
  c2 : G i_undone = some f_undone
  d0 : G i_law_draw = some f_law_draw
  d1 : G i_law_pick = some f_law_pick
  d2 : G i_law_word = some f_law_word
  d3 : G i_law_state = some f_law_state
  d4 : G i_law_mixed = some f_law_mixed
  d5 : G i_law_deed = some f_law_deed
  e0 : G i_law_sum = some f_law_sum
  e1 : G i_law_turned = some f_law_turned
  e2 : G i_law_shared_2 = some f_law_shared_2
  e3 : G i_law_due = some f_law_due
  e4 : G i_law_is_right_2 = some f_law_is_right_2
  e5 : G i_law_2 = some f_law_2
  e6 : G i_law_deck = some f_law_deck
theorem nin_word {w : Str} (h : w = sXor ∨ w = sAnd ∨ w = sAdd ∨ w = sOne) : cmpD .nin (.str w) (.tuple [.str sXor, .str sAnd]) = some (!(decide (w = sXor ∨ w = sAnd))) := by
  rcases h with rfl | rfl | rfl | rfl <;> decide +kernel
theorem word_cases (d : Deed) : d.word = sXor ∨ d.word = sAnd ∨ d.word = sAdd ∨ d.word = sOne := by
  cases d <;> simp [Deed.word]
theorem idx_word (d : Deed) : idxD d.data (.int 0) = some (.str d.word) := by
  cases d <;> exact idx_tup (i := 0) rfl
theorem kid_two0 {a b : PyData} : kid (.lst [.fz a, .fz b]) (.int 0) = some (.fz a) := rfl
theorem kid_two1 {a b : PyData} : kid (.lst [.fz a, .fz b]) (.int 1) = some (.fz b) := rfl
theorem varK_two {i : Nat} {a b : PyData} : varK i (.lst [.fz a, .fz b]) = ret (.at i []) := rfl
theorem nodeK_two {j : Nat} {ks : List PyData} {k : PyData} {os : List OD} : nodeK j ks k (.lst os) = bnd (opt (kid (.lst os) k)) fun x => kidK j ks k x := rfl
theorem frz_5 {a b c d e : PyData} : frz (.lst [.fz a, .fz b, .fz c, .fz d, .fz e]) = some (.list [a, b, c, d, e]) := rfl
theorem is_right5_ok {G : Nat → Option Fn} (T : Tab5 G) {cs : List Int} {m t : Int} (hc : cs.length ≤ 63) (k w : Nat) {N W : Int} (hN : N = k) (hW : W = w) (hk : 3 ≤ k) (hk2 : k ≤ 60) (hw0 : 0 < w) (hw : w ≤ 64) {f : Nat} (hf : 5 ≤ f) :
    ∃ cs' m' t', callN G f i_law_is_right_2 [dk cs m t, .fz (.int N), .fz (.int W)] = .ok (.fz (.bool true)) (some (dk cs' m' t')) ∧ cs'.length ≤ 63 := by
  obtain ⟨f, rfl⟩ : ∃ g, f = g + 5 := ⟨f - 5, by omega⟩
  obtain ⟨ws, c1, m1, t1, q1, hws, hl, hc1⟩ := state_ok T.d0 T.d2 T.d3 (m := m) (t := t) hc k w hN hW (by omega) hw0 (by omega) (n := f + 4) (by omega)
  obtain ⟨d, c2, m2, t2, q2, hd, hdw, hc2⟩ := deed_ok T.d0 T.d1 T.d4 T.d5 (m := m1) (t := t1) hc1 k hN hk (by omega) [sAdd, sAdd, sXor, sAnd, sOne] (by simp) (by simp) (by simp) (n := f + 4) (by omega)
  refine ⟨c2, m2, t2, ?_, hc2⟩
  have q2' : callN G (f + 4) i_law_deed [dk c1 m1 t1, .fz (.int N), .fz (.list [.str sAdd, .str sAdd, .str sXor, .str sAnd, .str sOne])] = .ok (.fz d.data) (some (dk c2 m2 t2)) := q2
  rw [← hl] at hd
  have hA := chg_wd (s := 1) hws d
  have hB := chg_wd (s := -1) hws d
  have hda : d.ok (chg w 1 ws d).length := by rw [chg_len]; exact hd
  have hdb : d.ok (chg w (-1) ws d).length := by rw [chg_len]; exact hd
  have u0 := law_due_ok T.e1 T.e2 T.e0 T.e3 w hW (by omega) ws hws (by omega) d hd false (n := f + 4) (by omega)
  have u1 := law_due_ok T.e1 T.e2 T.e0 T.e3 w hW (by omega) ws hws (by omega) d hd true (n := f + 4) (by omega)
  have v0 := done_ok T.c0 T.c1 w hW (by omega) ws (by omega) d hd (n := f + 4) (by omega)
  have v1 := undone_ok T.c0 T.c2 w hW (by omega) ws (by omega) d hd (n := f + 4) (by omega)
  have v2 := undone_ok T.c0 T.c2 w hW (by omega) _ (by rw [chg_len]; omega) d hda (n := f + 4) (by omega)
  have v3 := done_ok T.c0 T.c1 w hW (by omega) _ (by rw [chg_len]; omega) d hdb (n := f + 4) (by omega)
  have v4 := done_ok T.c0 T.c1 w hW (by omega) _ (by rw [chg_len]; omega) d hda (n := f + 4) (by omega)
  rw [chg_back hws hd] at v2
  rw [show chg w 1 (chg w (-1) ws d) d = ws from chg_back (s := -1) hws hd] at v3
  have hend : decide (d.word = sXor ∨ d.word = sAnd) = true → chg w 1 (chg w 1 ws d) d = ws := fun h => chg_twice hws hd (of_decide_eq_true h)
  have b1 := bi_repr (Sm.repr (SmA.list (SmA.cons (k := 60) (state_small hw hws (by omega)) (SmA.cons (deed_small (by omega) hd) (SmA.nil (n := 0))))) (by decide) (by decide))
  have b2 := bi_repr (Sm.repr (SmA.list (SmA.cons (k := 60) (state_small hw hA (by rw [chg_len]; omega)) (SmA.cons (state_small hw hB (by rw [chg_len]; omega)) (SmA.nil (n := 0))))) (by decide) (by decide))
  have b3 := bi_repr (Sm.repr (SmA.list (SmA.cons (k := 60) (state_small hw hws (by omega)) (SmA.cons (state_small hw hws (by omega)) (SmA.nil (n := 0))))) (by decide) (by decide))
  have b4 := bi_repr (Sm.repr (state_small hw hws (by omega)) (by decide) (by decide))
  have nw := nin_word (word_cases d)
  have iw := idx_word d
  simp only [Bool.false_eq_true, if_false] at u0
  simp only [if_true] at u1
  have mS := muS T.d3
  have mD := muS T.d5
  have mU := muN T.e3
  have mV := muN T.c1
  have mW := muN T.c2
  clear hN hW hda hdb hd hdw q2
  refine call_wp T.e4 rfl ?_
  generalize d.data = D at *
  generalize chg w 1 ws d = A at *
  generalize chg w (-1) ws d = B at *
  simp only [f_law_is_right_2, bind_bnd, wp_bnd, wp_ret, wp_bad, ev_var, ev_lit, ev_bin, ev_neg, ev_cmp, ev_and, ev_or, ev_not, ev_ite, ev_tup, ev_lst, ev_idx, ev_slc, ev_call, ev_kcall, ev_bi, ev_comp, ev_meth, evs_nil, evs_cons, evo_nil, evo_cons, evc_nil, evc_cons, evi_of, evi_rng, evi_enm, evi_zip, evi_rvs, exs_nil, exs_cons, ex_expr, ex_set, ex_unp, ex_par, ex_put, ex_ite, ex_whl, ex_fr, ex_rt, stores_nil, stores_var, opd_tmp, opd_at, val_tmp, val_atE, valD_def, see_fz, see_at, keep_fz, keep_at, give_fz, give_at, slotAt_def, varK_fz, varK_lst, idxK_fz, idxK_at, nodeK_fz, nodeK_lst, kidK_fz, kidK_lst, seeAll_nil, seeAll_cons, keepAll_nil, keepAll_cons, giveAll_nil, giveAll_cons, leave_tmp, leave_at, isLst_at, isAt_at, putAt_at, tgs_var, forL_nil, forL_cons, calling_none, calling_some, lend_noneE, lend_zero, lend_succ, lentK_fz, lentK_at, putBack_at, wpS, wpSet, wpOpt, wpIte, wpLeave, test_def, boolK_t, boolK_f, kid0, kid1, kid2, frz_fz, shal_fz, frz_nil, shal_nil, frz_ints, shal_ints, varK_dk, nodeK_dk, getAt_nil, getAt_dk0, setAt_nil, setAt_dk0, putD_dk2, negK_int, notK_bool, cmp_eqI, cmp_neI, cmp_ltI, cmp_leI, cmp_gtI, cmp_geI, cmp_neN, tru_bool, add_int, sub_int, bi_intI, bi_intB, bi_absI, rngK_2, limE, wpBoolK, behind_rt0, behind_rtN, if_true, if_false, Bool.false_eq_true, Bool.not_true, Bool.not_false, Bool.true_eq_false, List.isEmpty_nil, List.isEmpty_cons, decide_true, decide_false, List.isEmpty, Nat.zero_le, decide_eq_true_eq, List.getElem?_cons_zero, List.getElem?_cons_succ, List.set_cons_zero, List.set_cons_succ, List.length_cons, List.length_nil, List.map_cons, List.map_nil, List.cons_append, List.nil_append, List.replicate, Nat.reduceAdd, Nat.reduceSub, Nat.reduceLT, Nat.reduceLeDiff, true_and, and_true, mS, mD, mU, mV, mW, calling_some, lend_zero, lentK_at, q1, getElem0, putBack_at, frz_5, q2', sA_repr, frz_2, b1, u0, u1, v0, v1, b2, varK_two, cmp_neStr, perm3, kid_two0, kid_two1, nodeK_two, kidK_fz, v2, v3, b3, iw, nw]
  cases g : decide (d.word = sXor ∨ d.word = sAnd) with
  | false =>
    simp only [bind_bnd, wp_bnd, wp_ret, wp_bad, ev_var, ev_lit, ev_bin, ev_neg, ev_cmp, ev_and, ev_or, ev_not, ev_ite, ev_tup, ev_lst, ev_idx, ev_slc, ev_call, ev_kcall, ev_bi, ev_comp, ev_meth, evs_nil, evs_cons, evo_nil, evo_cons, evc_nil, evc_cons, evi_of, evi_rng, evi_enm, evi_zip, evi_rvs, exs_nil, exs_cons, ex_expr, ex_set, ex_unp, ex_par, ex_put, ex_ite, ex_whl, ex_fr, ex_rt, stores_nil, stores_var, opd_tmp, opd_at, val_tmp, val_atE, valD_def, see_fz, see_at, keep_fz, keep_at, give_fz, give_at, slotAt_def, varK_fz, varK_lst, idxK_fz, idxK_at, nodeK_fz, nodeK_lst, kidK_fz, kidK_lst, seeAll_nil, seeAll_cons, keepAll_nil, keepAll_cons, giveAll_nil, giveAll_cons, leave_tmp, leave_at, isLst_at, isAt_at, putAt_at, tgs_var, forL_nil, forL_cons, calling_none, calling_some, lend_noneE, lend_zero, lend_succ, lentK_fz, lentK_at, putBack_at, wpS, wpSet, wpOpt, wpIte, wpLeave, test_def, boolK_t, boolK_f, kid0, kid1, kid2, frz_fz, shal_fz, frz_nil, shal_nil, frz_ints, shal_ints, varK_dk, nodeK_dk, getAt_nil, getAt_dk0, setAt_nil, setAt_dk0, putD_dk2, negK_int, notK_bool, cmp_eqI, cmp_neI, cmp_ltI, cmp_leI, cmp_gtI, cmp_geI, cmp_neN, tru_bool, add_int, sub_int, bi_intI, bi_intB, bi_absI, rngK_2, limE, wpBoolK, behind_rt0, behind_rtN, if_true, if_false, Bool.false_eq_true, Bool.not_true, Bool.not_false, Bool.true_eq_false, List.isEmpty_nil, List.isEmpty_cons, decide_true, decide_false, List.isEmpty, Nat.zero_le, decide_eq_true_eq, List.getElem?_cons_zero, List.getElem?_cons_succ, List.set_cons_zero, List.set_cons_succ, List.length_cons, List.length_nil, List.map_cons, List.map_nil, List.cons_append, List.nil_append, List.replicate, Nat.reduceAdd, Nat.reduceSub, Nat.reduceLT, Nat.reduceLeDiff, true_and, and_true]
  | true =>
    rw [hend g] at v4
    simp only [bind_bnd, wp_bnd, wp_ret, wp_bad, ev_var, ev_lit, ev_bin, ev_neg, ev_cmp, ev_and, ev_or, ev_not, ev_ite, ev_tup, ev_lst, ev_idx, ev_slc, ev_call, ev_kcall, ev_bi, ev_comp, ev_meth, evs_nil, evs_cons, evo_nil, evo_cons, evc_nil, evc_cons, evi_of, evi_rng, evi_enm, evi_zip, evi_rvs, exs_nil, exs_cons, ex_expr, ex_set, ex_unp, ex_par, ex_put, ex_ite, ex_whl, ex_fr, ex_rt, stores_nil, stores_var, opd_tmp, opd_at, val_tmp, val_atE, valD_def, see_fz, see_at, keep_fz, keep_at, give_fz, give_at, slotAt_def, varK_fz, varK_lst, idxK_fz, idxK_at, nodeK_fz, nodeK_lst, kidK_fz, kidK_lst, seeAll_nil, seeAll_cons, keepAll_nil, keepAll_cons, giveAll_nil, giveAll_cons, leave_tmp, leave_at, isLst_at, isAt_at, putAt_at, tgs_var, forL_nil, forL_cons, calling_none, calling_some, lend_noneE, lend_zero, lend_succ, lentK_fz, lentK_at, putBack_at, wpS, wpSet, wpOpt, wpIte, wpLeave, test_def, boolK_t, boolK_f, kid0, kid1, kid2, frz_fz, shal_fz, frz_nil, shal_nil, frz_ints, shal_ints, varK_dk, nodeK_dk, getAt_nil, getAt_dk0, setAt_nil, setAt_dk0, putD_dk2, negK_int, notK_bool, cmp_eqI, cmp_neI, cmp_ltI, cmp_leI, cmp_gtI, cmp_geI, cmp_neN, tru_bool, add_int, sub_int, bi_intI, bi_intB, bi_absI, rngK_2, limE, wpBoolK, behind_rt0, behind_rtN, if_true, if_false, Bool.false_eq_true, Bool.not_true, Bool.not_false, Bool.true_eq_false, List.isEmpty_nil, List.isEmpty_cons, decide_true, decide_false, List.isEmpty, Nat.zero_le, decide_eq_true_eq, List.getElem?_cons_zero, List.getElem?_cons_succ, List.set_cons_zero, List.set_cons_succ, List.length_cons, List.length_nil, List.map_cons, List.map_nil, List.cons_append, List.nil_append, List.replicate, Nat.reduceAdd, Nat.reduceSub, Nat.reduceLT, Nat.reduceLeDiff, true_and, and_true, mV, v4, sA_repr, b4, cmp_eqStr, nodeK_two, kid_two0, kidK_fz, varK_two]
end HW
end

section
set_option linter.all false
set_option maxHeartbeats 8000000
set_option maxRecDepth 4000
/-! # Plain: the law k05 -/
namespace HW
open PySem PyProof.Rows PySem.W
def Good5 (D0 : Option OD) (e : Env) : Prop := ∃ cs m t a2 a3 a4, e = [D0, some (dk cs m t), a2, a3, a4, none, none, none, none] ∧ cs.length ≤ 63
theorem row8 {x : Int} (h : x ∈ ([1, 1, 2, 3, 4, 8, 17, 64] : List Int)) : ∃ w : Nat, x = w ∧ 0 < w ∧ w ≤ 64 := by
  simp only [List.mem_cons, List.not_mem_nil, or_false] at h
  exact ⟨x.toNat, by omega, by omega, by omega⟩
theorem row5 {x : Int} (h : x ∈ ([1, 2, 3, 8, 64] : List Int)) : ∃ w : Nat, x = w ∧ 0 < w ∧ w ≤ 64 := by
  simp only [List.mem_cons, List.not_mem_nil, or_false] at h
  exact ⟨x.toNat, by omega, by omega, by omega⟩
theorem pickI_ok {G : Nat → Option Fn} (h0 : G i_law_draw = some f_law_draw) (hG : G i_law_pick = some f_law_pick) {cs : List Int} {m t : Int} (hl : cs.length ≤ 63) (row : List Int) (hr : 0 < row.length) (hr2 : row.length ≤ 1000) {n : Nat} (hn : 2 ≤ n) :
    ∃ x cs' m' t', callN G n i_law_pick [dk cs m t, .fz (.list (intsL row))] = .ok (.fz (.int x)) (some (dk cs' m' t')) ∧ x ∈ row ∧ cs'.length ≤ 63 := by
  obtain ⟨x, cs', m', t', q, hx, hc⟩ := pickD_ok h0 hG (m := m) (t := t) hl (intsL row) (by rw [len_ints]; exact hr) (by rw [len_ints]; exact hr2) hn
  obtain ⟨c, h1, rfl⟩ := mem_ints hx
  exact ⟨c, cs', m', t', q, h1, hc⟩
def lawB5 : List S := match f_law_2.body with | _ :: .fr _ _ b :: _ => b | _ => []
theorem frz_8 {a b c d e f g h : PyData} : frz (.lst [.fz a, .fz b, .fz c, .fz d, .fz e, .fz f, .fz g, .fz h]) = some (.list [a, b, c, d, e, f, g, h]) := rfl
theorem turn5 {G : Nat → Option Fn} (T : Tab5 G) {cs : List Int} {m t : Int} (hc : cs.length ≤ 63) {f : Nat} (hf : 5 ≤ f) {D0 a2 a3 a4 : Option OD} :
    wp (exs (fun g => (G g).bind fun x => x.mu) (callN G f) lawB5) [D0, some (dk cs m t), a2, a3, a4, none, none, none, none] fun f e' => f = .nx ∧ Good5 D0 e' := by
  obtain ⟨g, rfl⟩ : ∃ g, f = g + 1 := ⟨f - 1, by omega⟩
  obtain ⟨r, c1, m1, t1, q1, r0, r1, hc1⟩ := draw T.d0 (cs := cs) (m := m) (t := t) (many := 6) (by omega) (by decide) hc g
  obtain ⟨W, c2, m2, t2, q2, hm, hc2⟩ := pickI_ok T.d0 T.d1 (m := m1) (t := t1) hc1 [1, 1, 2, 3, 4, 8, 17, 64] (by simp) (by simp) (n := g + 1) (by omega)
  obtain ⟨w, hW, hw0, hw⟩ := row8 hm
  obtain ⟨k, hN, hn0, hn⟩ : ∃ n : Nat, 3 + r = n ∧ 3 ≤ n ∧ n ≤ 60 := ⟨(3 + r).toNat, by omega, by omega, by omega⟩
  obtain ⟨c3, m3, t3, q3, hc3⟩ := is_right5_ok T (m := m2) (t := t2) hc2 k w hN hW hn0 hn hw0 hw (f := g + 1) hf
  have mD := muS T.d0
  have mP := muS T.d1
  have mR := muS T.e4
  have q2' : callN G (g + 1) i_law_pick [dk c1 m1 t1, .fz (.list [.int 1, .int 1, .int 2, .int 3, .int 4, .int 8, .int 17, .int 64])] = .ok (.fz (.int W)) (some (dk c2 m2 t2)) := q2
  clear hN hW hm
  show wp (exs _ _ [_, _]) _ _
  simp only [bind_bnd, wp_bnd, wp_ret, wp_bad, ev_var, ev_lit, ev_bin, ev_neg, ev_cmp, ev_and, ev_or, ev_not, ev_ite, ev_tup, ev_lst, ev_idx, ev_slc, ev_call, ev_kcall, ev_bi, ev_comp, ev_meth, evs_nil, evs_cons, evo_nil, evo_cons, evc_nil, evc_cons, evi_of, evi_rng, evi_enm, evi_zip, evi_rvs, exs_nil, exs_cons, ex_expr, ex_set, ex_unp, ex_par, ex_put, ex_ite, ex_whl, ex_fr, ex_rt, stores_nil, stores_var, opd_tmp, opd_at, val_tmp, val_atE, valD_def, see_fz, see_at, keep_fz, keep_at, give_fz, give_at, slotAt_def, varK_fz, varK_lst, idxK_fz, idxK_at, nodeK_fz, nodeK_lst, kidK_fz, kidK_lst, seeAll_nil, seeAll_cons, keepAll_nil, keepAll_cons, giveAll_nil, giveAll_cons, leave_tmp, leave_at, isLst_at, isAt_at, putAt_at, tgs_var, forL_nil, forL_cons, calling_none, calling_some, lend_noneE, lend_zero, lend_succ, lentK_fz, lentK_at, putBack_at, wpS, wpSet, wpOpt, wpIte, wpLeave, test_def, boolK_t, boolK_f, kid0, kid1, kid2, frz_fz, shal_fz, frz_nil, shal_nil, frz_ints, shal_ints, varK_dk, nodeK_dk, getAt_nil, getAt_dk0, setAt_nil, setAt_dk0, putD_dk2, negK_int, notK_bool, cmp_eqI, cmp_neI, cmp_ltI, cmp_leI, cmp_gtI, cmp_geI, cmp_neN, tru_bool, add_int, sub_int, bi_intI, bi_intB, bi_absI, rngK_2, limE, wpBoolK, behind_rt0, behind_rtN, if_true, if_false, Bool.false_eq_true, Bool.not_true, Bool.not_false, Bool.true_eq_false, List.isEmpty_nil, List.isEmpty_cons, decide_true, decide_false, List.isEmpty, Nat.zero_le, decide_eq_true_eq, List.getElem?_cons_zero, List.getElem?_cons_succ, List.set_cons_zero, List.set_cons_succ, List.length_cons, List.length_nil, List.map_cons, List.map_nil, List.cons_append, List.nil_append, List.replicate, Nat.reduceAdd, Nat.reduceSub, Nat.reduceLT, Nat.reduceLeDiff, true_and, and_true, mD, mP, mR, calling_some, lend_zero, lentK_at, q1, q2', q3, frz_8, getElem0, putBack_at]
  exact ⟨c3, m3, t3, _, _, _, rfl, hc3⟩
/-- rows of deeds done -/
theorem doneL_ok (w n : Nat) (ds : List Deed) (hds : ∀ d ∈ ds, d.ok n) (ws : List Int) (hws : Wd w ws) (hl : ws.length = n) :
    Wd w (ds.foldl (chg w 1) ws) ∧ (ds.foldl (chg w 1) ws).length = n := by
  induction ds generalizing ws with
  | nil => exact ⟨hws, hl⟩
  | cons d ds ih => exact ih (fun d h => hds d (List.mem_cons_of_mem _ h)) _ (chg_wd hws d) (by rw [chg_len]; exact hl)
theorem fold_snoc (w : Nat) (ws : List Int) (ds : List Deed) (d : Deed) : (ds ++ [d]).foldl (chg w 1) ws = chg w 1 (ds.foldl (chg w 1) ws) d := by
  rw [List.foldl_append]; rfl
theorem rev_map {α β : Type} (f : α → β) (l : List α) : (l.map f).reverse = l.reverse.map f := (List.map_reverse).symm
end HW
end

section
set_option linter.all false
set_option maxHeartbeats 8000000
set_option maxRecDepth 4000
/-! # Plain: the law k05, whole -/
namespace HW
open PySem PyProof.Rows PySem.W
theorem law5_end {G : Nat → Option Fn} (T : Tab5 G) {cs : List Int} {m t : Int} (hc : cs.length ≤ 63) {f : Nat} (hf : 5 ≤ f) {D0 a2 a3 a4 a5 a6 a7 a8 : Option OD} :
    wp (exs (fun g => (G g).bind fun x => x.mu) (callN G f) (f_law_2.body.drop 9)) [D0, some (dk cs m t), a2, a3, a4, a5, a6, a7, a8] fun f e' => behind f_law_2 (.ok f e') = .ok (.fz (.bool true)) none := by
  obtain ⟨g, rfl⟩ : ∃ g, f = g + 1 := ⟨f - 1, by omega⟩
  obtain ⟨r, c1, m1, t1, q1, r0, r1, hc1⟩ := draw T.d0 (cs := cs) (m := m) (t := t) (many := 2) (by omega) (by decide) hc g
  obtain ⟨r', c2, m2, t2, q2, r0', r1', hc2⟩ := draw T.d0 (cs := c1) (m := m1) (t := t1) (many := 5) (by omega) (by decide) hc1 g
  obtain ⟨w, hW, hw0, hw⟩ : ∃ w : Nat, 1 + r' = w ∧ 0 < w ∧ w ≤ 5 := ⟨(1 + r').toNat, by omega, by omega, by omega⟩
  obtain ⟨k, hN, hn0, hn⟩ : ∃ n : Nat, 3 + r = n ∧ 3 ≤ n ∧ n ≤ 60 := ⟨(3 + r).toNat, by omega, by omega, by omega⟩
  obtain ⟨ws, c3, m3, t3, q3, hws, hl, hc3⟩ := state_ok T.d0 T.d2 T.d3 (m := m2) (t := t2) hc2 k w hN hW (by omega) hw0 (by omega) (n := g + 1) (by omega)
  obtain ⟨d, c4, m4, t4, q4, hd, hdw, hc4⟩ := deed_ok T.d0 T.d1 T.d4 T.d5 (m := m3) (t := t3) hc3 k hN hn0 (by omega) [sAdd, sOne] (by simp) (by simp) (by simp) (n := g + 1) (by omega)
  have q4' : callN G (g + 1) i_law_deed [dk c3 m3 t3, .fz (.int (3 + r)), .fz (.list [.str sAdd, .str sOne])] = .ok (.fz d.data) (some (dk c4 m4 t4)) := q4
  rw [← hl] at hd
  have hwd : d.word = sAdd ∨ d.word = sOne := by simpa using hdw
  have step : ∀ l : Nat, callN G (g + 1) i_done [.fz (.int (1 + r')), .fz (.tuple (intsL (ws.set d.at ((ws.getD d.at 0 + l * d.more ws) % 2 ^ w)))), .fz d.data] = .ok (.fz (.tuple (intsL (ws.set d.at ((ws.getD d.at 0 + (l + 1 : Nat) * d.more ws) % 2 ^ w))))) none := fun l => by
    rw [← chg_often hd hwd l]
    exact done_ok T.c0 T.c1 w hW (by omega) _ (by rw [List.length_set]; omega) d (by rw [List.length_set]; exact hd) (by omega)
  have s1 : binD .shl (.int 1) (.int (1 + r')) = some (.fz (.int (2 ^ w))) := by rw [hW, shl_int (by decide) (by omega), Int.one_mul]
  have h32 : 2 ^ w ≤ 32 := Nat.pow_le_pow_right (n := 2) (by decide) hw
  have hr : rngK [.int (2 ^ w)] = ret (intsL ((List.range (2 ^ w)).map fun (k : Nat) => (k : Int))) := by rw [← kbt_cast]; exact rngK_nat (by omega)
  have b4 := bi_repr (Sm.repr (state_small (w := w) (by omega) hws (by omega)) (by decide) (by decide))
  have z0 := often_0 hws hd
  have z1 := often_all hws hd
  have mD := muS T.d0
  have mS := muS T.d3
  have mE := muS T.d5
  have mV := muN T.c1
  clear hN hW hd hdw hwd q4 r0 r1 r0' r1'
  show wp (exs _ _ [_, _, _, _, _]) _ _
  generalize d.data = D at *
  generalize 2 ^ w = p at hr h32 z1
  simp only [bind_bnd, wp_bnd, wp_ret, wp_bad, ev_var, ev_lit, ev_bin, ev_neg, ev_cmp, ev_and, ev_or, ev_not, ev_ite, ev_tup, ev_lst, ev_idx, ev_slc, ev_call, ev_kcall, ev_bi, ev_comp, ev_meth, evs_nil, evs_cons, evo_nil, evo_cons, evc_nil, evc_cons, evi_of, evi_rng, evi_enm, evi_zip, evi_rvs, exs_nil, exs_cons, ex_expr, ex_set, ex_unp, ex_par, ex_put, ex_ite, ex_whl, ex_fr, ex_rt, stores_nil, stores_var, opd_tmp, opd_at, val_tmp, val_atE, valD_def, see_fz, see_at, keep_fz, keep_at, give_fz, give_at, slotAt_def, varK_fz, varK_lst, idxK_fz, idxK_at, nodeK_fz, nodeK_lst, kidK_fz, kidK_lst, seeAll_nil, seeAll_cons, keepAll_nil, keepAll_cons, giveAll_nil, giveAll_cons, leave_tmp, leave_at, isLst_at, isAt_at, putAt_at, tgs_var, forL_nil, forL_cons, calling_none, calling_some, lend_noneE, lend_zero, lend_succ, lentK_fz, lentK_at, putBack_at, wpS, wpSet, wpOpt, wpIte, wpLeave, test_def, boolK_t, boolK_f, kid0, kid1, kid2, frz_fz, shal_fz, frz_nil, shal_nil, frz_ints, shal_ints, varK_dk, nodeK_dk, getAt_nil, getAt_dk0, setAt_nil, setAt_dk0, putD_dk2, negK_int, notK_bool, cmp_eqI, cmp_neI, cmp_ltI, cmp_leI, cmp_gtI, cmp_geI, cmp_neN, tru_bool, add_int, sub_int, bi_intI, bi_intB, bi_absI, rngK_2, limE, wpBoolK, behind_rt0, behind_rtN, if_true, if_false, Bool.false_eq_true, Bool.not_true, Bool.not_false, Bool.true_eq_false, List.isEmpty_nil, List.isEmpty_cons, decide_true, decide_false, List.isEmpty, Nat.zero_le, decide_eq_true_eq, List.getElem?_cons_zero, List.getElem?_cons_succ, List.set_cons_zero, List.set_cons_succ, List.length_cons, List.length_nil, List.map_cons, List.map_nil, List.cons_append, List.nil_append, List.replicate, Nat.reduceAdd, Nat.reduceSub, Nat.reduceLT, Nat.reduceLeDiff, true_and, and_true, mD, mS, mE, calling_some, lend_zero, lentK_at, q1, q2, q3, q4', getElem0, putBack_at, frz_2, s1, hr]
  refine for_range (fun l e => ∃ x2, e = [D0, some (dk c4 m4 t4), x2, some (.fz (.int (3 + r))), some (.fz (.int (1 + r'))), some (.fz (.tuple (intsL ws))), a6, some (.fz (.tuple (intsL (ws.set d.at ((ws.getD d.at 0 + l * d.more ws) % 2 ^ w))))), some (.fz D)]) p (fun l e hlp h => ?_) (fun e h => ?_) _ ⟨a2, by rw [z0]⟩
  · obtain ⟨x2, rfl⟩ := h
    simp only [bind_bnd, wp_bnd, wp_ret, wp_bad, ev_var, ev_lit, ev_bin, ev_neg, ev_cmp, ev_and, ev_or, ev_not, ev_ite, ev_tup, ev_lst, ev_idx, ev_slc, ev_call, ev_kcall, ev_bi, ev_comp, ev_meth, evs_nil, evs_cons, evo_nil, evo_cons, evc_nil, evc_cons, evi_of, evi_rng, evi_enm, evi_zip, evi_rvs, exs_nil, exs_cons, ex_expr, ex_set, ex_unp, ex_par, ex_put, ex_ite, ex_whl, ex_fr, ex_rt, stores_nil, stores_var, opd_tmp, opd_at, val_tmp, val_atE, valD_def, see_fz, see_at, keep_fz, keep_at, give_fz, give_at, slotAt_def, varK_fz, varK_lst, idxK_fz, idxK_at, nodeK_fz, nodeK_lst, kidK_fz, kidK_lst, seeAll_nil, seeAll_cons, keepAll_nil, keepAll_cons, giveAll_nil, giveAll_cons, leave_tmp, leave_at, isLst_at, isAt_at, putAt_at, tgs_var, forL_nil, forL_cons, calling_none, calling_some, lend_noneE, lend_zero, lend_succ, lentK_fz, lentK_at, putBack_at, wpS, wpSet, wpOpt, wpIte, wpLeave, test_def, boolK_t, boolK_f, kid0, kid1, kid2, frz_fz, shal_fz, frz_nil, shal_nil, frz_ints, shal_ints, varK_dk, nodeK_dk, getAt_nil, getAt_dk0, setAt_nil, setAt_dk0, putD_dk2, negK_int, notK_bool, cmp_eqI, cmp_neI, cmp_ltI, cmp_leI, cmp_gtI, cmp_geI, cmp_neN, tru_bool, add_int, sub_int, bi_intI, bi_intB, bi_absI, rngK_2, limE, wpBoolK, behind_rt0, behind_rtN, if_true, if_false, Bool.false_eq_true, Bool.not_true, Bool.not_false, Bool.true_eq_false, List.isEmpty_nil, List.isEmpty_cons, decide_true, decide_false, List.isEmpty, Nat.zero_le, decide_eq_true_eq, List.getElem?_cons_zero, List.getElem?_cons_succ, List.set_cons_zero, List.set_cons_succ, List.length_cons, List.length_nil, List.map_cons, List.map_nil, List.cons_append, List.nil_append, List.replicate, Nat.reduceAdd, Nat.reduceSub, Nat.reduceLT, Nat.reduceLeDiff, true_and, and_true, tgs_v, mV, step l]
    exact ⟨_, rfl⟩
  · obtain ⟨x2, rfl⟩ := h
    rw [z1]
    simp only [bind_bnd, wp_bnd, wp_ret, wp_bad, ev_var, ev_lit, ev_bin, ev_neg, ev_cmp, ev_and, ev_or, ev_not, ev_ite, ev_tup, ev_lst, ev_idx, ev_slc, ev_call, ev_kcall, ev_bi, ev_comp, ev_meth, evs_nil, evs_cons, evo_nil, evo_cons, evc_nil, evc_cons, evi_of, evi_rng, evi_enm, evi_zip, evi_rvs, exs_nil, exs_cons, ex_expr, ex_set, ex_unp, ex_par, ex_put, ex_ite, ex_whl, ex_fr, ex_rt, stores_nil, stores_var, opd_tmp, opd_at, val_tmp, val_atE, valD_def, see_fz, see_at, keep_fz, keep_at, give_fz, give_at, slotAt_def, varK_fz, varK_lst, idxK_fz, idxK_at, nodeK_fz, nodeK_lst, kidK_fz, kidK_lst, seeAll_nil, seeAll_cons, keepAll_nil, keepAll_cons, giveAll_nil, giveAll_cons, leave_tmp, leave_at, isLst_at, isAt_at, putAt_at, tgs_var, forL_nil, forL_cons, calling_none, calling_some, lend_noneE, lend_zero, lend_succ, lentK_fz, lentK_at, putBack_at, wpS, wpSet, wpOpt, wpIte, wpLeave, test_def, boolK_t, boolK_f, kid0, kid1, kid2, frz_fz, shal_fz, frz_nil, shal_nil, frz_ints, shal_ints, varK_dk, nodeK_dk, getAt_nil, getAt_dk0, setAt_nil, setAt_dk0, putD_dk2, negK_int, notK_bool, cmp_eqI, cmp_neI, cmp_ltI, cmp_leI, cmp_gtI, cmp_geI, cmp_neN, tru_bool, add_int, sub_int, bi_intI, bi_intB, bi_absI, rngK_2, limE, wpBoolK, behind_rt0, behind_rtN, if_true, if_false, Bool.false_eq_true, Bool.not_true, Bool.not_false, Bool.true_eq_false, List.isEmpty_nil, List.isEmpty_cons, decide_true, decide_false, List.isEmpty, Nat.zero_le, decide_eq_true_eq, List.getElem?_cons_zero, List.getElem?_cons_succ, List.set_cons_zero, List.set_cons_succ, List.length_cons, List.length_nil, List.map_cons, List.map_nil, List.cons_append, List.nil_append, List.replicate, Nat.reduceAdd, Nat.reduceSub, Nat.reduceLT, Nat.reduceLeDiff, true_and, and_true, sA_repr, b4, cmp_eqStr]
    rfl
theorem restS {e0 : Env} {x0 x1 x2 x3 x4 x5 x6 x7 x8 : Option OD} : ∃ y, restore e0 [2] [x0, x1, x2, x3, x4, x5, x6, x7, x8] = [x0, x1, y, x3, x4, x5, x6, x7, x8] := ⟨keptE e0 2, rfl⟩
theorem revK_list {ds : List PyData} : revK (.list ds) = ret (.tmp (fzs ds.reverse)) := rfl
theorem ev_rev {mus : Nat → Option Nat} {c : CallF} {a : E} : ev mus c (.rev a) = bnd (bnd (ev mus c a) opd) fun p => bnd (keep p) fun d => revK d := rfl
theorem law5_mid {G : Nat → Option Fn} (T : Tab5 G) {cs : List Int} {m t : Int} (hc : cs.length ≤ 63) {f : Nat} (hf : 5 ≤ f) {D0 a2 a3 a4 : Option OD} :
    wp (exs (fun g => (G g).bind fun x => x.mu) (callN G f) (f_law_2.body.drop 2)) [D0, some (dk cs m t), a2, a3, a4, none, none, none, none] fun f e' => behind f_law_2 (.ok f e') = .ok (.fz (.bool true)) none := by
  obtain ⟨g, rfl⟩ : ∃ g, f = g + 1 := ⟨f - 1, by omega⟩
  obtain ⟨r, c1, m1, t1, q1, r0, r1, hc1⟩ := draw T.d0 (cs := cs) (m := m) (t := t) (many := 6) (by omega) (by decide) hc g
  obtain ⟨W, c2, m2, t2, q2, hm, hc2⟩ := pickI_ok T.d0 T.d1 (m := m1) (t := t1) hc1 [1, 2, 3, 8, 64] (by simp) (by simp) (n := g + 1) (by omega)
  obtain ⟨w, hW, hw0, hw⟩ := row5 hm
  obtain ⟨k, hN, hn0, hn⟩ : ∃ n : Nat, 3 + r = n ∧ 3 ≤ n ∧ n ≤ 60 := ⟨(3 + r).toNat, by omega, by omega, by omega⟩
  obtain ⟨ws, c3, m3, t3, q3, hws, hl, hc3⟩ := state_ok T.d0 T.d2 T.d3 (m := m2) (t := t2) hc2 k w hN hW (by omega) hw0 (by omega) (n := g + 1) (by omega)
  have deed : ∀ {cs : List Int} {m t : Int}, cs.length ≤ 63 → ∃ d cs' m' t', callN G (g + 1) i_law_deed [dk cs m t, .fz (.int (3 + r)), .fz (.list [.str sAdd, .str sXor, .str sAnd, .str sOne])] = .ok (.fz (Deed.data d)) (some (dk cs' m' t')) ∧ d.ok k ∧ cs'.length ≤ 63 := fun {cs m t} hc => by
    obtain ⟨d, c4, m4, t4, q4, hd, hdw, hc4⟩ := deed_ok T.d0 T.d1 T.d4 T.d5 (m := m) (t := t) hc k hN hn0 (by omega) [sAdd, sXor, sAnd, sOne] (by simp) (by simp) (by simp) (n := g + 1) (by omega)
    exact ⟨d, c4, m4, t4, q4, hd, hc4⟩
  have fin := fun (cs : List Int) (m t : Int) (hc : cs.length ≤ 63) (a2 a3 a4 a5 a6 a7 a8 : Option OD) => law5_end T hc (m := m) (t := t) hf (D0 := D0) (a2 := a2) (a3 := a3) (a4 := a4) (a5 := a5) (a6 := a6) (a7 := a7) (a8 := a8)
  have done1 : ∀ (xs : List Int) (d : Deed), xs.length = k → d.ok k → callN G (g + 1) i_done [.fz (.int W), .fz (.tuple (intsL xs)), .fz d.data] = .ok (.fz (.tuple (intsL (chg w 1 xs d)))) none := fun xs d hx hd => done_ok T.c0 T.c1 w hW (by omega) xs (by omega) d (by rw [hx]; exact hd) (by omega)
  have undo1 : ∀ (xs : List Int) (d : Deed), xs.length = k → d.ok k → callN G (g + 1) i_undone [.fz (.int W), .fz (.tuple (intsL xs)), .fz d.data] = .ok (.fz (.tuple (intsL (chg w (-1) xs d)))) none := fun xs d hx hd => undone_ok T.c0 T.c2 w hW (by omega) xs (by omega) d (by rw [hx]; exact hd) (by omega)
  have b4 := bi_repr (Sm.repr (state_small hw hws (by omega)) (by decide) (by decide))
  have q2' : callN G (g + 1) i_law_pick [dk c1 m1 t1, .fz (.list [.int 1, .int 2, .int 3, .int 8, .int 64])] = .ok (.fz (.int W)) (some (dk c2 m2 t2)) := q2
  obtain ⟨ds12, r12⟩ : ∃ ds, rngK [.int 12] = ret ds ∧ ds.length = 12 := ⟨_, rngK_nat (w := 12) (by decide), by rw [len_ints]; rfl⟩
  obtain ⟨r12, l12⟩ := r12
  have mD := muS T.d0
  have mP := muS T.d1
  have mS := muS T.d3
  have mE := muS T.d5
  have mV := muN T.c1
  have mU := muN T.c2
  clear hN hW hm q2 r0 r1
  show wp (exs _ _ (_ :: _ :: _ :: _ :: _ :: _ :: _ :: f_law_2.body.drop 9)) _ _
  generalize f_law_2.body.drop 9 = rest at fin ⊢
  simp only [bind_bnd, wp_bnd, wp_ret, wp_bad, ev_var, ev_lit, ev_bin, ev_neg, ev_cmp, ev_and, ev_or, ev_not, ev_ite, ev_tup, ev_lst, ev_idx, ev_slc, ev_call, ev_kcall, ev_bi, ev_comp, ev_meth, evs_nil, evs_cons, evo_nil, evo_cons, evc_nil, evc_cons, evi_of, evi_rng, evi_enm, evi_zip, evi_rvs, exs_nil, exs_cons, ex_expr, ex_set, ex_unp, ex_par, ex_put, ex_ite, ex_whl, ex_fr, ex_rt, stores_nil, stores_var, opd_tmp, opd_at, val_tmp, val_atE, valD_def, see_fz, see_at, keep_fz, keep_at, give_fz, give_at, slotAt_def, varK_fz, varK_lst, idxK_fz, idxK_at, nodeK_fz, nodeK_lst, kidK_fz, kidK_lst, seeAll_nil, seeAll_cons, keepAll_nil, keepAll_cons, giveAll_nil, giveAll_cons, leave_tmp, leave_at, isLst_at, isAt_at, putAt_at, tgs_var, forL_nil, forL_cons, calling_none, calling_some, lend_noneE, lend_zero, lend_succ, lentK_fz, lentK_at, putBack_at, wpS, wpSet, wpOpt, wpIte, wpLeave, test_def, boolK_t, boolK_f, kid0, kid1, kid2, frz_fz, shal_fz, frz_nil, shal_nil, frz_ints, shal_ints, varK_dk, nodeK_dk, getAt_nil, getAt_dk0, setAt_nil, setAt_dk0, putD_dk2, negK_int, notK_bool, cmp_eqI, cmp_neI, cmp_ltI, cmp_leI, cmp_gtI, cmp_geI, cmp_neN, tru_bool, add_int, sub_int, bi_intI, bi_intB, bi_absI, rngK_2, limE, wpBoolK, behind_rt0, behind_rtN, if_true, if_false, Bool.false_eq_true, Bool.not_true, Bool.not_false, Bool.true_eq_false, List.isEmpty_nil, List.isEmpty_cons, decide_true, decide_false, List.isEmpty, Nat.zero_le, decide_eq_true_eq, List.getElem?_cons_zero, List.getElem?_cons_succ, List.set_cons_zero, List.set_cons_succ, List.length_cons, List.length_nil, List.map_cons, List.map_nil, List.cons_append, List.nil_append, List.replicate, Nat.reduceAdd, Nat.reduceSub, Nat.reduceLT, Nat.reduceLeDiff, true_and, and_true, mD, mP, mS, calling_some, lend_zero, lentK_at, q1, q2', q3, getElem0, putBack_at, frz_5, r12]
  refine comp_inv (fun rest ys e => ∃ ds c m t, ys = ds.map Deed.data ∧ (∀ d ∈ ds, d.ok k) ∧ ds.length + rest.length = 12 ∧ c.length ≤ 63 ∧ wipeE e [2] = [D0, some (dk c m t), none, some (.fz (.int (3 + r))), some (.fz (.int W)), some (.fz (.tuple (intsL ws))), none, none, none]) (fun d rest ys e h => ?_) ⟨[], c3, m3, t3, rfl, fun d hd => (by cases hd), by rw [l12]; rfl, hc3, rfl⟩ (fun ys e h => ?_)
  · obtain ⟨ds, c, m, t, rfl, hds, hdl, hc, he⟩ := h
    obtain ⟨d', c', m', t', q, hd', hc'⟩ := deed (m := m) (t := t) hc
    rw [he]
    simp only [bind_bnd, wp_bnd, wp_ret, wp_bad, ev_var, ev_lit, ev_bin, ev_neg, ev_cmp, ev_and, ev_or, ev_not, ev_ite, ev_tup, ev_lst, ev_idx, ev_slc, ev_call, ev_kcall, ev_bi, ev_comp, ev_meth, evs_nil, evs_cons, evo_nil, evo_cons, evc_nil, evc_cons, evi_of, evi_rng, evi_enm, evi_zip, evi_rvs, exs_nil, exs_cons, ex_expr, ex_set, ex_unp, ex_par, ex_put, ex_ite, ex_whl, ex_fr, ex_rt, stores_nil, stores_var, opd_tmp, opd_at, val_tmp, val_atE, valD_def, see_fz, see_at, keep_fz, keep_at, give_fz, give_at, slotAt_def, varK_fz, varK_lst, idxK_fz, idxK_at, nodeK_fz, nodeK_lst, kidK_fz, kidK_lst, seeAll_nil, seeAll_cons, keepAll_nil, keepAll_cons, giveAll_nil, giveAll_cons, leave_tmp, leave_at, isLst_at, isAt_at, putAt_at, tgs_var, forL_nil, forL_cons, calling_none, calling_some, lend_noneE, lend_zero, lend_succ, lentK_fz, lentK_at, putBack_at, wpS, wpSet, wpOpt, wpIte, wpLeave, test_def, boolK_t, boolK_f, kid0, kid1, kid2, frz_fz, shal_fz, frz_nil, shal_nil, frz_ints, shal_ints, varK_dk, nodeK_dk, getAt_nil, getAt_dk0, setAt_nil, setAt_dk0, putD_dk2, negK_int, notK_bool, cmp_eqI, cmp_neI, cmp_ltI, cmp_leI, cmp_gtI, cmp_geI, cmp_neN, tru_bool, add_int, sub_int, bi_intI, bi_intB, bi_absI, rngK_2, limE, wpBoolK, behind_rt0, behind_rtN, if_true, if_false, Bool.false_eq_true, Bool.not_true, Bool.not_false, Bool.true_eq_false, List.isEmpty_nil, List.isEmpty_cons, decide_true, decide_false, List.isEmpty, Nat.zero_le, decide_eq_true_eq, List.getElem?_cons_zero, List.getElem?_cons_succ, List.set_cons_zero, List.set_cons_succ, List.length_cons, List.length_nil, List.map_cons, List.map_nil, List.cons_append, List.nil_append, List.replicate, Nat.reduceAdd, Nat.reduceSub, Nat.reduceLT, Nat.reduceLeDiff, true_and, and_true, tgs_v, mE, calling_some, lend_zero, lentK_at, q, getElem0, putBack_at, frz_4, valD_def]
    refine ⟨?_, ds ++ [d'], c', m', t', by simp, ?_, by simp at hdl ⊢; omega, hc', rfl⟩
    · rw [List.length_map]; simp at hdl; exact Nat.lt_of_lt_of_le (show ds.length < 65 by omega) (lim_big (by decide))
    · intro y hy
      rcases List.mem_append.mp hy with z | z
      · exact hds y z
      · rw [List.mem_singleton.mp z]; exact hd'
  · obtain ⟨ds, c, m', t', rfl, hds, hdl, hc, he⟩ := h
    rw [rest_wiped, he]
    obtain ⟨y2, hy⟩ := restS (e0 := [D0, some (dk c3 m3 t3), a2, some (.fz (.int (3 + r))), some (.fz (.int W)), some (.fz (.tuple (intsL ws))), none, none, none]) (x0 := D0) (x1 := some (dk c m' t')) (x2 := none) (x3 := some (.fz (.int (3 + r)))) (x4 := some (.fz (.int W))) (x5 := some (.fz (.tuple (intsL ws)))) (x6 := none) (x7 := none) (x8 := none)
    rw [hy]
    simp only [bind_bnd, wp_bnd, wp_ret, wp_bad, ev_var, ev_lit, ev_bin, ev_neg, ev_cmp, ev_and, ev_or, ev_not, ev_ite, ev_tup, ev_lst, ev_idx, ev_slc, ev_call, ev_kcall, ev_bi, ev_comp, ev_meth, evs_nil, evs_cons, evo_nil, evo_cons, evc_nil, evc_cons, evi_of, evi_rng, evi_enm, evi_zip, evi_rvs, exs_nil, exs_cons, ex_expr, ex_set, ex_unp, ex_par, ex_put, ex_ite, ex_whl, ex_fr, ex_rt, stores_nil, stores_var, opd_tmp, opd_at, val_tmp, val_atE, valD_def, see_fz, see_at, keep_fz, keep_at, give_fz, give_at, slotAt_def, varK_fz, varK_lst, idxK_fz, idxK_at, nodeK_fz, nodeK_lst, kidK_fz, kidK_lst, seeAll_nil, seeAll_cons, keepAll_nil, keepAll_cons, giveAll_nil, giveAll_cons, leave_tmp, leave_at, isLst_at, isAt_at, putAt_at, tgs_var, forL_nil, forL_cons, calling_none, calling_some, lend_noneE, lend_zero, lend_succ, lentK_fz, lentK_at, putBack_at, wpS, wpSet, wpOpt, wpIte, wpLeave, test_def, boolK_t, boolK_f, kid0, kid1, kid2, frz_fz, shal_fz, frz_nil, shal_nil, frz_ints, shal_ints, varK_dk, nodeK_dk, getAt_nil, getAt_dk0, setAt_nil, setAt_dk0, putD_dk2, negK_int, notK_bool, cmp_eqI, cmp_neI, cmp_ltI, cmp_leI, cmp_gtI, cmp_geI, cmp_neN, tru_bool, add_int, sub_int, bi_intI, bi_intB, bi_absI, rngK_2, limE, wpBoolK, behind_rt0, behind_rtN, if_true, if_false, Bool.false_eq_true, Bool.not_true, Bool.not_false, Bool.true_eq_false, List.isEmpty_nil, List.isEmpty_cons, decide_true, decide_false, List.isEmpty, Nat.zero_le, decide_eq_true_eq, List.getElem?_cons_zero, List.getElem?_cons_succ, List.set_cons_zero, List.set_cons_succ, List.length_cons, List.length_nil, List.map_cons, List.map_nil, List.cons_append, List.nil_append, List.replicate, Nat.reduceAdd, Nat.reduceSub, Nat.reduceLT, Nat.reduceLeDiff, true_and, and_true, varK_fzs, seqD_list, valD_def, frz_fzs', isE_nil]
    refine for_inv (fun rest e => ∃ pre suf x8, pre ++ suf = ds ∧ rest = suf.map Deed.data ∧ e = [D0, some (dk c m' t'), y2, some (.fz (.int (3 + r))), some (.fz (.int W)), some (.fz (.tuple (intsL ws))), some (.fz (.list (ds.map Deed.data))), some (.fz (.tuple (intsL (pre.foldl (chg w 1) ws)))), x8]) (fun d rest e h => ?_) (fun e h => ?_) _ _ ⟨[], ds, none, rfl, rfl, rfl⟩
    · obtain ⟨pre, suf, x8, hps, hr, rfl⟩ := h
      cases suf with
      | nil => cases hr
      | cons s suf =>
        injection hr with e1 e2
        subst e1 e2
        have hpre : ∀ d ∈ pre, d.ok k := fun d h => hds d (by rw [← hps]; exact List.mem_append_left _ h)
        have hs := done1 (pre.foldl (chg w 1) ws) s (doneL_ok w k pre hpre ws hws hl).2 (hds s (by rw [← hps]; simp))
        simp only [bind_bnd, wp_bnd, wp_ret, wp_bad, ev_var, ev_lit, ev_bin, ev_neg, ev_cmp, ev_and, ev_or, ev_not, ev_ite, ev_tup, ev_lst, ev_idx, ev_slc, ev_call, ev_kcall, ev_bi, ev_comp, ev_meth, evs_nil, evs_cons, evo_nil, evo_cons, evc_nil, evc_cons, evi_of, evi_rng, evi_enm, evi_zip, evi_rvs, exs_nil, exs_cons, ex_expr, ex_set, ex_unp, ex_par, ex_put, ex_ite, ex_whl, ex_fr, ex_rt, stores_nil, stores_var, opd_tmp, opd_at, val_tmp, val_atE, valD_def, see_fz, see_at, keep_fz, keep_at, give_fz, give_at, slotAt_def, varK_fz, varK_lst, idxK_fz, idxK_at, nodeK_fz, nodeK_lst, kidK_fz, kidK_lst, seeAll_nil, seeAll_cons, keepAll_nil, keepAll_cons, giveAll_nil, giveAll_cons, leave_tmp, leave_at, isLst_at, isAt_at, putAt_at, tgs_var, forL_nil, forL_cons, calling_none, calling_some, lend_noneE, lend_zero, lend_succ, lentK_fz, lentK_at, putBack_at, wpS, wpSet, wpOpt, wpIte, wpLeave, test_def, boolK_t, boolK_f, kid0, kid1, kid2, frz_fz, shal_fz, frz_nil, shal_nil, frz_ints, shal_ints, varK_dk, nodeK_dk, getAt_nil, getAt_dk0, setAt_nil, setAt_dk0, putD_dk2, negK_int, notK_bool, cmp_eqI, cmp_neI, cmp_ltI, cmp_leI, cmp_gtI, cmp_geI, cmp_neN, tru_bool, add_int, sub_int, bi_intI, bi_intB, bi_absI, rngK_2, limE, wpBoolK, behind_rt0, behind_rtN, if_true, if_false, Bool.false_eq_true, Bool.not_true, Bool.not_false, Bool.true_eq_false, List.isEmpty_nil, List.isEmpty_cons, decide_true, decide_false, List.isEmpty, Nat.zero_le, decide_eq_true_eq, List.getElem?_cons_zero, List.getElem?_cons_succ, List.set_cons_zero, List.set_cons_succ, List.length_cons, List.length_nil, List.map_cons, List.map_nil, List.cons_append, List.nil_append, List.replicate, Nat.reduceAdd, Nat.reduceSub, Nat.reduceLT, Nat.reduceLeDiff, true_and, and_true, tgs_v, mV, hs]
        exact ⟨pre ++ [s], suf, _, by rw [← hps]; simp, rfl, by rw [fold_snoc]⟩
    · obtain ⟨pre, suf, x8, hps, hr, rfl⟩ := h
      have hsuf : suf = [] := by
        cases suf with
        | nil => rfl
        | cons s suf => cases hr
      subst hsuf
      rw [List.append_nil] at hps
      subst hps
      simp only [bind_bnd, wp_bnd, wp_ret, wp_bad, ev_var, ev_lit, ev_bin, ev_neg, ev_cmp, ev_and, ev_or, ev_not, ev_ite, ev_tup, ev_lst, ev_idx, ev_slc, ev_call, ev_kcall, ev_bi, ev_comp, ev_meth, evs_nil, evs_cons, evo_nil, evo_cons, evc_nil, evc_cons, evi_of, evi_rng, evi_enm, evi_zip, evi_rvs, exs_nil, exs_cons, ex_expr, ex_set, ex_unp, ex_par, ex_put, ex_ite, ex_whl, ex_fr, ex_rt, stores_nil, stores_var, opd_tmp, opd_at, val_tmp, val_atE, valD_def, see_fz, see_at, keep_fz, keep_at, give_fz, give_at, slotAt_def, varK_fz, varK_lst, idxK_fz, idxK_at, nodeK_fz, nodeK_lst, kidK_fz, kidK_lst, seeAll_nil, seeAll_cons, keepAll_nil, keepAll_cons, giveAll_nil, giveAll_cons, leave_tmp, leave_at, isLst_at, isAt_at, putAt_at, tgs_var, forL_nil, forL_cons, calling_none, calling_some, lend_noneE, lend_zero, lend_succ, lentK_fz, lentK_at, putBack_at, wpS, wpSet, wpOpt, wpIte, wpLeave, test_def, boolK_t, boolK_f, kid0, kid1, kid2, frz_fz, shal_fz, frz_nil, shal_nil, frz_ints, shal_ints, varK_dk, nodeK_dk, getAt_nil, getAt_dk0, setAt_nil, setAt_dk0, putD_dk2, negK_int, notK_bool, cmp_eqI, cmp_neI, cmp_ltI, cmp_leI, cmp_gtI, cmp_geI, cmp_neN, tru_bool, add_int, sub_int, bi_intI, bi_intB, bi_absI, rngK_2, limE, wpBoolK, behind_rt0, behind_rtN, if_true, if_false, Bool.false_eq_true, Bool.not_true, Bool.not_false, Bool.true_eq_false, List.isEmpty_nil, List.isEmpty_cons, decide_true, decide_false, List.isEmpty, Nat.zero_le, decide_eq_true_eq, List.getElem?_cons_zero, List.getElem?_cons_succ, List.set_cons_zero, List.set_cons_succ, List.length_cons, List.length_nil, List.map_cons, List.map_nil, List.cons_append, List.nil_append, List.replicate, Nat.reduceAdd, Nat.reduceSub, Nat.reduceLT, Nat.reduceLeDiff, true_and, and_true, ev_rev, keep_fz, revK_list, frz_fzs', seqD_list, valD_def]
      rw [rev_map]
      refine for_inv (fun rest e => ∃ suf x8, (∀ d ∈ suf, d.ok k) ∧ rest = suf.reverse.map Deed.data ∧ e = [D0, some (dk c m' t'), y2, some (.fz (.int (3 + r))), some (.fz (.int W)), some (.fz (.tuple (intsL ws))), some (.fz (.list (pre.map Deed.data))), some (.fz (.tuple (intsL (suf.foldl (chg w 1) ws)))), x8]) (fun d rest e h => ?_) (fun e h => ?_) _ _ ⟨pre, _, hds, rfl, rfl⟩
      · obtain ⟨suf, x8, hsf, hr, rfl⟩ := h
        rcases List.eq_nil_or_concat suf with rfl | ⟨init, s, rfl⟩
        · cases hr
        · rw [List.concat_eq_append] at *
          rw [List.reverse_append] at hr
          injection hr with e1 e2
          subst e1 e2
          have hin : ∀ d ∈ init, d.ok k := fun d h => hsf d (List.mem_append_left _ h)
          obtain ⟨w1, l1⟩ := doneL_ok w k init hin ws hws hl
          have sk : s.ok k := hsf s (by simp)
          have hs := undo1 (chg w 1 (init.foldl (chg w 1) ws) s) s (by rw [chg_len]; exact l1) sk
          rw [chg_back w1 (by rw [l1]; exact sk)] at hs
          rw [fold_snoc]
          simp only [bind_bnd, wp_bnd, wp_ret, wp_bad, ev_var, ev_lit, ev_bin, ev_neg, ev_cmp, ev_and, ev_or, ev_not, ev_ite, ev_tup, ev_lst, ev_idx, ev_slc, ev_call, ev_kcall, ev_bi, ev_comp, ev_meth, evs_nil, evs_cons, evo_nil, evo_cons, evc_nil, evc_cons, evi_of, evi_rng, evi_enm, evi_zip, evi_rvs, exs_nil, exs_cons, ex_expr, ex_set, ex_unp, ex_par, ex_put, ex_ite, ex_whl, ex_fr, ex_rt, stores_nil, stores_var, opd_tmp, opd_at, val_tmp, val_atE, valD_def, see_fz, see_at, keep_fz, keep_at, give_fz, give_at, slotAt_def, varK_fz, varK_lst, idxK_fz, idxK_at, nodeK_fz, nodeK_lst, kidK_fz, kidK_lst, seeAll_nil, seeAll_cons, keepAll_nil, keepAll_cons, giveAll_nil, giveAll_cons, leave_tmp, leave_at, isLst_at, isAt_at, putAt_at, tgs_var, forL_nil, forL_cons, calling_none, calling_some, lend_noneE, lend_zero, lend_succ, lentK_fz, lentK_at, putBack_at, wpS, wpSet, wpOpt, wpIte, wpLeave, test_def, boolK_t, boolK_f, kid0, kid1, kid2, frz_fz, shal_fz, frz_nil, shal_nil, frz_ints, shal_ints, varK_dk, nodeK_dk, getAt_nil, getAt_dk0, setAt_nil, setAt_dk0, putD_dk2, negK_int, notK_bool, cmp_eqI, cmp_neI, cmp_ltI, cmp_leI, cmp_gtI, cmp_geI, cmp_neN, tru_bool, add_int, sub_int, bi_intI, bi_intB, bi_absI, rngK_2, limE, wpBoolK, behind_rt0, behind_rtN, if_true, if_false, Bool.false_eq_true, Bool.not_true, Bool.not_false, Bool.true_eq_false, List.isEmpty_nil, List.isEmpty_cons, decide_true, decide_false, List.isEmpty, Nat.zero_le, decide_eq_true_eq, List.getElem?_cons_zero, List.getElem?_cons_succ, List.set_cons_zero, List.set_cons_succ, List.length_cons, List.length_nil, List.map_cons, List.map_nil, List.cons_append, List.nil_append, List.replicate, Nat.reduceAdd, Nat.reduceSub, Nat.reduceLT, Nat.reduceLeDiff, true_and, and_true, tgs_v, mU, hs]
          exact ⟨init, _, hin, rfl, rfl⟩
      · obtain ⟨suf, x8, hsf, hr, rfl⟩ := h
        have hsuf : suf = [] := by
          cases suf with
          | nil => rfl
          | cons s suf =>
            have := congrArg List.length hr
            simp at this
        subst hsuf
        simp only [List.foldl_nil, bind_bnd, wp_bnd, wp_ret, wp_bad, ev_var, ev_lit, ev_bin, ev_neg, ev_cmp, ev_and, ev_or, ev_not, ev_ite, ev_tup, ev_lst, ev_idx, ev_slc, ev_call, ev_kcall, ev_bi, ev_comp, ev_meth, evs_nil, evs_cons, evo_nil, evo_cons, evc_nil, evc_cons, evi_of, evi_rng, evi_enm, evi_zip, evi_rvs, exs_nil, exs_cons, ex_expr, ex_set, ex_unp, ex_par, ex_put, ex_ite, ex_whl, ex_fr, ex_rt, stores_nil, stores_var, opd_tmp, opd_at, val_tmp, val_atE, valD_def, see_fz, see_at, keep_fz, keep_at, give_fz, give_at, slotAt_def, varK_fz, varK_lst, idxK_fz, idxK_at, nodeK_fz, nodeK_lst, kidK_fz, kidK_lst, seeAll_nil, seeAll_cons, keepAll_nil, keepAll_cons, giveAll_nil, giveAll_cons, leave_tmp, leave_at, isLst_at, isAt_at, putAt_at, tgs_var, forL_nil, forL_cons, calling_none, calling_some, lend_noneE, lend_zero, lend_succ, lentK_fz, lentK_at, putBack_at, wpS, wpSet, wpOpt, wpIte, wpLeave, test_def, boolK_t, boolK_f, kid0, kid1, kid2, frz_fz, shal_fz, frz_nil, shal_nil, frz_ints, shal_ints, varK_dk, nodeK_dk, getAt_nil, getAt_dk0, setAt_nil, setAt_dk0, putD_dk2, negK_int, notK_bool, cmp_eqI, cmp_neI, cmp_ltI, cmp_leI, cmp_gtI, cmp_geI, cmp_neN, tru_bool, add_int, sub_int, bi_intI, bi_intB, bi_absI, rngK_2, limE, wpBoolK, behind_rt0, behind_rtN, if_true, if_false, Bool.false_eq_true, Bool.not_true, Bool.not_false, Bool.true_eq_false, List.isEmpty_nil, List.isEmpty_cons, decide_true, decide_false, List.isEmpty, Nat.zero_le, decide_eq_true_eq, List.getElem?_cons_zero, List.getElem?_cons_succ, List.set_cons_zero, List.set_cons_succ, List.length_cons, List.length_nil, List.map_cons, List.map_nil, List.cons_append, List.nil_append, List.replicate, Nat.reduceAdd, Nat.reduceSub, Nat.reduceLT, Nat.reduceLeDiff, true_and, and_true, sA_repr, b4, cmp_neStr]
        exact fin c m' t' hc _ _ _ _ _ _ _
end HW
end

section
set_option linter.all false
set_option maxHeartbeats 8000000
set_option maxRecDepth 4000
/-! # Plain: the law k05, all of it -/
namespace HW
open PySem PyProof.Rows PySem.W
theorem law5_ok {G : Nat → Option Fn} (T : Tab5 G) {ns : List Int} (hl : ns.length ≤ 63) : callN G 40 i_law_2 [.fz (.list (ns.map .int))] = .ok (.fz (.bool true)) none := by
  obtain ⟨cs, m, t, hd, hc⟩ := deck_ok T.e6 hl 38
  have hd' : callN G 39 i_law_deck [.fz (.list (ns.map .int))] = .ok (dk cs m t) none := hd
  have mD := muN T.e6
  obtain ⟨ts, r8⟩ : ∃ ts, rngK [.int 8] = ret ts := ⟨_, rfl⟩
  have turn := fun (cs : List Int) (m t : Int) (hc : cs.length ≤ 63) (D0 a2 a3 a4 : Option OD) => turn5 T hc (m := m) (t := t) (f := 39) (by decide) (D0 := D0) (a2 := a2) (a3 := a3) (a4 := a4)
  have mid := fun (cs : List Int) (m t : Int) (hc : cs.length ≤ 63) (D0 a2 a3 a4 : Option OD) => law5_mid T hc (m := m) (t := t) (f := 39) (by decide) (D0 := D0) (a2 := a2) (a3 := a3) (a4 := a4)
  refine call_wp T.e5 rfl ?_
  show wp (exs _ _ (_ :: .fr _ _ lawB5 :: f_law_2.body.drop 2)) [some (.fz (.list (ns.map .int))), none, none, none, none, none, none, none, none] _
  generalize lawB5 = body at turn ⊢
  generalize f_law_2.body.drop 2 = rest at mid ⊢
  simp only [bind_bnd, wp_bnd, wp_ret, wp_bad, ev_var, ev_lit, ev_bin, ev_neg, ev_cmp, ev_and, ev_or, ev_not, ev_ite, ev_tup, ev_lst, ev_idx, ev_slc, ev_call, ev_kcall, ev_bi, ev_comp, ev_meth, evs_nil, evs_cons, evo_nil, evo_cons, evc_nil, evc_cons, evi_of, evi_rng, evi_enm, evi_zip, evi_rvs, exs_nil, exs_cons, ex_expr, ex_set, ex_unp, ex_par, ex_put, ex_ite, ex_whl, ex_fr, ex_rt, stores_nil, stores_var, opd_tmp, opd_at, val_tmp, val_atE, valD_def, see_fz, see_at, keep_fz, keep_at, give_fz, give_at, slotAt_def, varK_fz, varK_lst, idxK_fz, idxK_at, nodeK_fz, nodeK_lst, kidK_fz, kidK_lst, seeAll_nil, seeAll_cons, keepAll_nil, keepAll_cons, giveAll_nil, giveAll_cons, leave_tmp, leave_at, isLst_at, isAt_at, putAt_at, tgs_var, forL_nil, forL_cons, calling_none, calling_some, lend_noneE, lend_zero, lend_succ, lentK_fz, lentK_at, putBack_at, wpS, wpSet, wpOpt, wpIte, wpLeave, test_def, boolK_t, boolK_f, kid0, kid1, kid2, frz_fz, shal_fz, frz_nil, shal_nil, frz_ints, shal_ints, varK_dk, nodeK_dk, getAt_nil, getAt_dk0, setAt_nil, setAt_dk0, putD_dk2, negK_int, notK_bool, cmp_eqI, cmp_neI, cmp_ltI, cmp_leI, cmp_gtI, cmp_geI, cmp_neN, tru_bool, add_int, sub_int, bi_intI, bi_intB, bi_absI, rngK_2, limE, wpBoolK, behind_rt0, behind_rtN, if_true, if_false, Bool.false_eq_true, Bool.not_true, Bool.not_false, Bool.true_eq_false, List.isEmpty_nil, List.isEmpty_cons, decide_true, decide_false, List.isEmpty, Nat.zero_le, decide_eq_true_eq, List.getElem?_cons_zero, List.getElem?_cons_succ, List.set_cons_zero, List.set_cons_succ, List.length_cons, List.length_nil, List.map_cons, List.map_nil, List.cons_append, List.nil_append, List.replicate, Nat.reduceAdd, Nat.reduceSub, Nat.reduceLT, Nat.reduceLeDiff, true_and, and_true, mD, hd', r8]
  refine for_inv (fun rest e => Good5 (some (.fz (.list (ns.map .int)))) e) (fun d ds e h => ?_) (fun e h => ?_) _ _ ⟨cs, m, t, _, _, _, rfl, hc⟩
  · obtain ⟨cs, m, t, a2, a3, a4, rfl, hc⟩ := h
    simp only [bind_bnd, wp_bnd, wp_ret, wp_bad, ev_var, ev_lit, ev_bin, ev_neg, ev_cmp, ev_and, ev_or, ev_not, ev_ite, ev_tup, ev_lst, ev_idx, ev_slc, ev_call, ev_kcall, ev_bi, ev_comp, ev_meth, evs_nil, evs_cons, evo_nil, evo_cons, evc_nil, evc_cons, evi_of, evi_rng, evi_enm, evi_zip, evi_rvs, exs_nil, exs_cons, ex_expr, ex_set, ex_unp, ex_par, ex_put, ex_ite, ex_whl, ex_fr, ex_rt, stores_nil, stores_var, opd_tmp, opd_at, val_tmp, val_atE, valD_def, see_fz, see_at, keep_fz, keep_at, give_fz, give_at, slotAt_def, varK_fz, varK_lst, idxK_fz, idxK_at, nodeK_fz, nodeK_lst, kidK_fz, kidK_lst, seeAll_nil, seeAll_cons, keepAll_nil, keepAll_cons, giveAll_nil, giveAll_cons, leave_tmp, leave_at, isLst_at, isAt_at, putAt_at, tgs_var, forL_nil, forL_cons, calling_none, calling_some, lend_noneE, lend_zero, lend_succ, lentK_fz, lentK_at, putBack_at, wpS, wpSet, wpOpt, wpIte, wpLeave, test_def, boolK_t, boolK_f, kid0, kid1, kid2, frz_fz, shal_fz, frz_nil, shal_nil, frz_ints, shal_ints, varK_dk, nodeK_dk, getAt_nil, getAt_dk0, setAt_nil, setAt_dk0, putD_dk2, negK_int, notK_bool, cmp_eqI, cmp_neI, cmp_ltI, cmp_leI, cmp_gtI, cmp_geI, cmp_neN, tru_bool, add_int, sub_int, bi_intI, bi_intB, bi_absI, rngK_2, limE, wpBoolK, behind_rt0, behind_rtN, if_true, if_false, Bool.false_eq_true, Bool.not_true, Bool.not_false, Bool.true_eq_false, List.isEmpty_nil, List.isEmpty_cons, decide_true, decide_false, List.isEmpty, Nat.zero_le, decide_eq_true_eq, List.getElem?_cons_zero, List.getElem?_cons_succ, List.set_cons_zero, List.set_cons_succ, List.length_cons, List.length_nil, List.map_cons, List.map_nil, List.cons_append, List.nil_append, List.replicate, Nat.reduceAdd, Nat.reduceSub, Nat.reduceLT, Nat.reduceLeDiff, true_and, and_true, tgs_v]
    refine wp_mono (turn cs m t hc _ _ a3 a4) (fun f e' h => ?_)
    obtain ⟨rfl, h⟩ := h
    exact h
  · obtain ⟨cs, m, t, a2, a3, a4, rfl, hc⟩ := h
    exact mid cs m t hc _ a2 a3 a4
end HW
end

section
set_option Elab.async false
set_option linter.all false
set_option maxRecDepth 100000
set_option maxHeartbeats 0
namespace HW
open PySem PySem.Spec PyProof.Rows L2
def top (i : Nat) : Stmt := PySem.Challenge.pw_homewords_k05_whole_deeds_done_and_undon.main.body.getD i (.Pass ⟨0, 0, 0, 0⟩)
def p_changed : PD := ⟨i_changed, ⟨"changed", 4, []⟩, ["w", "state", "deed", "times", "word", "i", "fresh"], ["w", "state", "deed", "times"], top 1, f_changed⟩
def p_done : PD := ⟨i_done, ⟨"done", 3, [(["deed", "state", "w"], [2, 1, 0])]⟩, ["w", "state", "deed"], ["w", "state", "deed"], top 2, f_done⟩
def p_undone : PD := ⟨i_undone, ⟨"undone", 3, [(["deed", "state", "w"], [2, 1, 0])]⟩, ["w", "state", "deed"], ["w", "state", "deed"], top 3, f_undone⟩
def p_law_deck : PD := ⟨i_law_deck, ⟨"_law_deck", 1, []⟩, ["script", "cells", "mixed", "cell"], ["script"], top 5, f_law_deck⟩
def p_law_draw : PD := ⟨i_law_draw, ⟨"_law_draw", 2, []⟩, ["deck", "many", "cell", "found", "turn"], ["deck", "many"], top 6, f_law_draw⟩
def p_law_pick : PD := ⟨i_law_pick, ⟨"_law_pick", 2, []⟩, ["deck", "row"], ["deck", "row"], top 7, f_law_pick⟩
def p_law_mixed : PD := ⟨i_law_mixed, ⟨"_law_mixed", 2, []⟩, ["deck", "row", "left", "found"], ["deck", "row"], top 8, f_law_mixed⟩
def p_law_word : PD := ⟨i_law_word, ⟨"_law_word", 2, []⟩, ["deck", "w", "way", "found", "turn"], ["deck", "w"], top 9, f_law_word⟩
def p_law_state : PD := ⟨i_law_state, ⟨"_law_state", 3, []⟩, ["deck", "n", "w", "spot"], ["deck", "n", "w"], top 10, f_law_state⟩
def p_law_deed : PD := ⟨i_law_deed, ⟨"_law_deed", 3, []⟩, ["deck", "n", "words", "word", "places"], ["deck", "n", "words"], top 11, f_law_deed⟩
def p_law_sum : PD := ⟨i_law_sum, ⟨"_law_sum", 4, []⟩, ["w", "one", "other", "carried", "found", "level", "first", "second", "many"], ["w", "one", "other", "carried"], top 12, f_law_sum⟩
def p_law_turned : PD := ⟨i_law_turned, ⟨"_law_turned", 3, []⟩, ["w", "one", "other", "found", "level", "first", "second"], ["w", "one", "other"], top 13, f_law_turned⟩
def p_law_shared_2 : PD := ⟨i_law_shared_2, ⟨"_law_shared", 3, []⟩, ["w", "one", "other", "found", "level", "first", "second"], ["w", "one", "other"], top 14, f_law_shared_2⟩
def p_law_due : PD := ⟨i_law_due, ⟨"_law_due", 4, []⟩, ["w", "state", "deed", "is_back", "word", "spot", "own", "more"], ["w", "state", "deed", "is_back"], top 15, f_law_due⟩
def p_law_is_right_2 : PD := ⟨i_law_is_right_2, ⟨"_law_is_right", 3, []⟩, ["deck", "n", "w", "state", "deed", "before", "due"], ["deck", "n", "w"], top 16, f_law_is_right_2⟩
def p_law_2 : PD := ⟨i_law_2, ⟨"law", 1, []⟩, ["script", "deck", "turn", "n", "w", "state", "deeds", "here", "deed"], ["script"], top 17, f_law_2⟩
def L : List PD := [p_changed, p_done, p_undone, p_law_deck, p_law_draw, p_law_pick, p_law_mixed, p_law_word, p_law_state, p_law_deed, p_law_sum, p_law_turned, p_law_shared_2, p_law_due, p_law_is_right_2, p_law_2]
theorem ck_changed : pdB L p_changed = true := by decide +kernel
theorem bd_changed : BindP p_changed := fun _ _ _ _ _ _ us hl => match us, hl with | [_, _, _, _], _ => rfl
theorem ck_done : pdB L p_done = true := by decide +kernel
theorem bd_done : BindP p_done := fun _ _ _ _ _ _ us hl => match us, hl with | [_, _, _], _ => rfl
theorem kw_done_0 : KwP p_done (["deed", "state", "w"], [2, 1, 0]) := fun _ _ _ _ _ _ ws us hl hu => match ws, hl, hu with | [a0, a1, a2], _, hu => (by
      cases (show some [a2, a1, a0] = some us from hu)
      rfl)
theorem ck_undone : pdB L p_undone = true := by decide +kernel
theorem bd_undone : BindP p_undone := fun _ _ _ _ _ _ us hl => match us, hl with | [_, _, _], _ => rfl
theorem kw_undone_0 : KwP p_undone (["deed", "state", "w"], [2, 1, 0]) := fun _ _ _ _ _ _ ws us hl hu => match ws, hl, hu with | [a0, a1, a2], _, hu => (by
      cases (show some [a2, a1, a0] = some us from hu)
      rfl)
theorem ck_law_deck : pdB L p_law_deck = true := by decide +kernel
theorem bd_law_deck : BindP p_law_deck := fun _ _ _ _ _ _ us hl => match us, hl with | [_], _ => rfl
theorem ck_law_draw : pdB L p_law_draw = true := by decide +kernel
theorem bd_law_draw : BindP p_law_draw := fun _ _ _ _ _ _ us hl => match us, hl with | [_, _], _ => rfl
theorem ck_law_pick : pdB L p_law_pick = true := by decide +kernel
theorem bd_law_pick : BindP p_law_pick := fun _ _ _ _ _ _ us hl => match us, hl with | [_, _], _ => rfl
theorem ck_law_mixed : pdB L p_law_mixed = true := by decide +kernel
theorem bd_law_mixed : BindP p_law_mixed := fun _ _ _ _ _ _ us hl => match us, hl with | [_, _], _ => rfl
theorem ck_law_word : pdB L p_law_word = true := by decide +kernel
theorem bd_law_word : BindP p_law_word := fun _ _ _ _ _ _ us hl => match us, hl with | [_, _], _ => rfl
theorem ck_law_state : pdB L p_law_state = true := by decide +kernel
theorem bd_law_state : BindP p_law_state := fun _ _ _ _ _ _ us hl => match us, hl with | [_, _, _], _ => rfl
theorem ck_law_deed : pdB L p_law_deed = true := by decide +kernel
theorem bd_law_deed : BindP p_law_deed := fun _ _ _ _ _ _ us hl => match us, hl with | [_, _, _], _ => rfl
theorem ck_law_sum : pdB L p_law_sum = true := by decide +kernel
theorem bd_law_sum : BindP p_law_sum := fun _ _ _ _ _ _ us hl => match us, hl with | [_, _, _, _], _ => rfl
theorem ck_law_turned : pdB L p_law_turned = true := by decide +kernel
theorem bd_law_turned : BindP p_law_turned := fun _ _ _ _ _ _ us hl => match us, hl with | [_, _, _], _ => rfl
theorem ck_law_shared_2 : pdB L p_law_shared_2 = true := by decide +kernel
theorem bd_law_shared_2 : BindP p_law_shared_2 := fun _ _ _ _ _ _ us hl => match us, hl with | [_, _, _], _ => rfl
theorem ck_law_due : pdB L p_law_due = true := by decide +kernel
theorem bd_law_due : BindP p_law_due := fun _ _ _ _ _ _ us hl => match us, hl with | [_, _, _, _], _ => rfl
theorem ck_law_is_right_2 : pdB L p_law_is_right_2 = true := by decide +kernel
theorem bd_law_is_right_2 : BindP p_law_is_right_2 := fun _ _ _ _ _ _ us hl => match us, hl with | [_, _, _], _ => rfl
theorem ck_law_2 : pdB L p_law_2 = true := by decide +kernel
theorem bd_law_2 : BindP p_law_2 := fun _ _ _ _ _ _ us hl => match us, hl with | [_], _ => rfl
theorem mem_L {p : PD} (hp : p ∈ L) : p = p_changed ∨ p = p_done ∨ p = p_undone ∨ p = p_law_deck ∨ p = p_law_draw ∨ p = p_law_pick ∨ p = p_law_mixed ∨ p = p_law_word ∨ p = p_law_state ∨ p = p_law_deed ∨ p = p_law_sum ∨ p = p_law_turned ∨ p = p_law_shared_2 ∨ p = p_law_due ∨ p = p_law_is_right_2 ∨ p = p_law_2 := by
  simpa only [L, List.mem_cons, List.not_mem_nil, or_false] using hp
theorem ck : ∀ p ∈ L, pdB L p = true := by
  intro p hp
  rcases mem_L hp with rfl | rfl | rfl | rfl | rfl | rfl | rfl | rfl | rfl | rfl | rfl | rfl | rfl | rfl | rfl | rfl
  · exact ck_changed
  · exact ck_done
  · exact ck_undone
  · exact ck_law_deck
  · exact ck_law_draw
  · exact ck_law_pick
  · exact ck_law_mixed
  · exact ck_law_word
  · exact ck_law_state
  · exact ck_law_deed
  · exact ck_law_sum
  · exact ck_law_turned
  · exact ck_law_shared_2
  · exact ck_law_due
  · exact ck_law_is_right_2
  · exact ck_law_2
theorem uq : ∀ p ∈ L, (L.find? fun q => q.g == p.g) = some p := by
  intro p hp
  rcases mem_L hp with rfl | rfl | rfl | rfl | rfl | rfl | rfl | rfl | rfl | rfl | rfl | rfl | rfl | rfl | rfl | rfl
  all_goals rfl
theorem bp : ∀ p ∈ L, BindP p := by
  intro p hp
  rcases mem_L hp with rfl | rfl | rfl | rfl | rfl | rfl | rfl | rfl | rfl | rfl | rfl | rfl | rfl | rfl | rfl | rfl
  · exact bd_changed
  · exact bd_done
  · exact bd_undone
  · exact bd_law_deck
  · exact bd_law_draw
  · exact bd_law_pick
  · exact bd_law_mixed
  · exact bd_law_word
  · exact bd_law_state
  · exact bd_law_deed
  · exact bd_law_sum
  · exact bd_law_turned
  · exact bd_law_shared_2
  · exact bd_law_due
  · exact bd_law_is_right_2
  · exact bd_law_2
theorem kp : ∀ p ∈ L, ∀ q ∈ p.ft.kws, KwP p q := by
  intro p hp
  rcases mem_L hp with rfl | rfl | rfl | rfl | rfl | rfl | rfl | rfl | rfl | rfl | rfl | rfl | rfl | rfl | rfl | rfl
  · intro q hq; cases hq
  · intro q hq
    rcases (show q = ((["deed", "state", "w"] : List Str), ([2, 1, 0] : List Nat)) from by simpa only [p_done, List.mem_cons, List.not_mem_nil, or_false] using hq) with rfl
    · exact kw_done_0
  · intro q hq
    rcases (show q = ((["deed", "state", "w"] : List Str), ([2, 1, 0] : List Nat)) from by simpa only [p_undone, List.mem_cons, List.not_mem_nil, or_false] using hq) with rfl
    · exact kw_undone_0
  · intro q hq; cases hq
  · intro q hq; cases hq
  · intro q hq; cases hq
  · intro q hq; cases hq
  · intro q hq; cases hq
  · intro q hq; cases hq
  · intro q hq; cases hq
  · intro q hq; cases hq
  · intro q hq; cases hq
  · intro q hq; cases hq
  · intro q hq; cases hq
  · intro q hq; cases hq
  · intro q hq; cases hq
abbrev RO : PySem.W.OpenRow := PySem.W.OpenLaw.row PySem.Challenge.rw_homewords_k05_whole_deeds_done_and_undon
abbrev hk : PySem.W.Hook := He.hookD 4 (faL L) (fnL L)
def ob (s : PySem.W.SharedT) : He.AlD := He.obsDG 4 (faL L) (fnL L) (HandSHeadRun.getT s)
theorem ob_eq (s : PySem.W.SharedT) : ob s = hk.obs s.abs := He.obsDG_eq (HandSHeadRun.getT_eq s)
def loose : List Str := ["changed", "done", "undone", "_law_deck", "_law_draw", "_law_pick", "_law_mixed", "_law_word", "_law_state", "_law_deed", "_law_sum", "_law_turned", "_law_shared", "_law_due", "_law_is_right"]
set_option maxRecDepth 1000000 in
theorem run (w : World) : HandSHeadRun.RunEq RO (PySem.W.view RO.prog [17]) hk ob 1040 loose w := by
  intro os
  kernel_rfl
end HW
open PySem PySem.W PySem.Calls PyProof.Rows
theorem head_ok (law : ∀ ns : List Int, ns.length ≤ 63 → (∀ i ∈ ns, Builtin.Int.intBits i ≤ 1048576) → HW.callN (HW.tabG HW.L) 40 HW.i_law_2 [.fz (.list (ns.map .int))] = .ok (.fz (.bool true)) none) : PySem.Challenge.rw_homewords_k05_whole_deeds_done_and_undon.Holds := by
  w_on; o_law
  refine HandSHeadRun.head_any (r := OpenLaw.row PySem.Challenge.rw_homewords_k05_whole_deeds_done_and_undon) (q := view (OpenLaw.row PySem.Challenge.rw_homewords_k05_whole_deeds_done_and_undon).prog [17]) (H := HW.hk) (ob := HW.ob) (M := 1040) (loose := HW.loose) (d := HandSHeadRun.topDef (OpenLaw.row PySem.Challenge.rw_homewords_k05_whole_deeds_done_and_undon).prog 17) (kwd := []) HW.ob_eq
    (by kernel_rfl) (fun s => by kernel_rfl) HW.run (by kernel_rfl) (by kernel_rfl) (by kernel_rfl) (by rfl) (by first | assumption | decide +kernel) (by decide +kernel) ⟨rfl, rfl, rfl, rfl, rfl, by decide +kernel⟩ ?hw ?hc
  case hw => w_witness2
  case hc =>
    refine HW.walk_G (l := PySem.Challenge.rw_homewords_k05_whole_deeds_done_and_undon) (n := 63) (k := 40) (x := "script") (c := HW.callN (HW.tabG HW.L) 40) (g := HW.i_law_2) rfl (by decide) (by kernel_rfl) ⟨rfl, by decide, by decide⟩ ?F law
    intro w mg fa h yp gns gfa
    obtain ⟨K, kin, c⟩ := yp
    have gfa' : mg HW.p_law_2.ft.name = some (.ref fa) := by
      have e : (HandSHeadRun.topDef (OpenLaw.row PySem.Challenge.rw_homewords_k05_whole_deeds_done_and_undon).prog 17).name = HW.p_law_2.ft.name := by kernel_rfl
      rw [← e]
      exact gfa
    exact ⟨K, kin, HW.facts_of (pl := HW.p_law_2) HW.ck HW.uq HW.bp HW.kp (by simp [HW.L]) rfl rfl rfl kin gns gfa' c⟩
end

section
set_option linter.all false
theorem HW.tab05 : HW.Tab5 (HW.tabG HW.L) := ⟨rfl, rfl, rfl, rfl, rfl, rfl, rfl, rfl, rfl, rfl, rfl, rfl, rfl, rfl, rfl, rfl⟩
theorem PySem.Challenge.cw_homewords_k05_whole_deeds_done_and_undon_holds : PySem.Challenge.rw_homewords_k05_whole_deeds_done_and_undon.Holds := by
  exact head_ok fun ns hl _ => HW.law5_ok HW.tab05 hl
end
