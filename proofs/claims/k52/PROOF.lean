import PyProof.Rows.All
import Wide.All
import OpenK.AllK
import Wide.FinOn
import PySem.PyData
import KE.SortData
import PyProof.EqLayable
import HandS.ForMost
import HandS.Walk
import HandS.Flow
import HandS.Deep
import KE.DataCmp
import HandS.Star
import HandS.Defaults
import HandS.Comp
import HandS.Conv
import HandS.More
import HandS.IsInst
import HandS.TupLen
import HandS.TupAny
import HandS.Zip
import HandS.DictComp
import KE.KDictPairs
import KE.KDictCopyH
import KE.GoesEnum
import KE.KDictWalk
import HandS.Ends
import HandS.Words
import HandS.WordsExc
import HandS.Head0
import HandS.Head1
import HandS.Head2
import HandS.HeadEnd
import HandS.HeadHook1
import HandS.HeadHook2
import PySem.Challenge.RW_nesthunts_k52_whole_chases_played
set_option Elab.async false
set_option linter.all false
set_option maxRecDepth 100000
/-! PvD: values without a heap, and what a piece of Python does with them: every statement and expression as a transformer of
predicates over such values. Nothing here speaks of a program, of addresses or of the machine. -/
namespace PV
open PySem

/-- a key of a dict: an int or a text -/
abbrev Ky := Sum Int Str
/-- a value; dicts: keys ints and texts; keys tuples of such -/
inductive D where
  | none
  | bool (b : Bool)
  | int (i : Int)
  | str (x : Str)
  | list (xs : List D)
  | tuple (xs : List D)
  | dk (l : List (Ky × D))
  | dt (l : List (List Ky × D))
def Ky.d : Ky → D
  | .inl i => .int i
  | .inr x => .str x
def tkd (k : List Ky) : D := .tuple (k.map Ky.d)
/-- a container that can be changed -/
def box : D → Bool
  | .list _ => true
  | .dk _ => true
  | .dt _ => true
  | _ => false
/-- what a name holds: nothing known; a value that is read (a parameter); a value that never changes; a thing of one's own; the pot of draws -/
inductive Sl where
  | un | rd (d : D) | fz (d : D) | own (d : D) | pot
abbrev Rho := List Sl
/-- what an expression gives: a value; what the i-th name holds, itself; a new thing; the pot -/
inductive Rr where
  | val (d : D) | al (i : Nat) | fr (d : D) | pot
/-- an argument; what a def gives back -/
inductive Ag where
  | d (d : D) | pot
inductive Re where
  | val (d : D) | fr (d : D)
def Sl.data : Sl → Option D
  | .rd d => some d
  | .fz d => some d
  | .own d => some d
  | _ => Option.none
def Rr.look (ρ : Rho) : Rr → Option D
  | .val d => some d
  | .al i => match ρ[i]? with
    | some s => s.data
    | Option.none => Option.none
  | .fr o => some o
  | .pot => Option.none
/-- as a value that never changes from here on -/
def Rr.fzn : Rr → Option D
  | .val d => some d
  | .fr o => some o
  | _ => Option.none
def Rr.arg (ρ : Rho) : Rr → Option Ag
  | .pot => some .pot
  | r => (r.look ρ).map Ag.d
def Rr.re (ρ : Rho) : Rr → Option Re
  | .val d => some (.val d)
  | .fr o => some (.fr o)
  | .al i => match ρ[i]? with
    | some (.own o) => some (.fr o)
    | some (.fz d) => some (.val d)
    | _ => Option.none
  | .pot => Option.none
def Re.d : Re → D
  | .val d => d
  | .fr o => o
/-- what is kept of a value that is stored under a name -/
def Rr.sl (ρ : Rho) : Rr → Option Sl
  | .val d => some (.fz d)
  | .fr o => some (.own o)
  | .al i => match ρ[i]? with
    | some (.rd d) => some (.rd d)
    | some (.fz d) => some (.fz d)
    | _ => Option.none
  | .pot => some .pot

/-! ### predicates' transformers -/
abbrev M (α : Type) := (α → Prop) → Prop
def ret {α : Type} (a : α) : M α := fun Q => Q a
def bnd {α β : Type} (m : M α) (f : α → M β) : M β := fun Q => m fun a => f a Q
def fail {α : Type} : M α := fun _ => False
def opt {α : Type} : Option α → M α
  | some a => ret a
  | none => fail
/-- one of 0 .. n - 1, whichever -/
def draw (n : Int) : M Int := fun Q => ∀ k : Int, 0 ≤ k → k < n → Q k
@[simp] theorem bnd_ret {α β : Type} (a : α) (f : α → M β) : bnd (ret a) f = f a := rfl
@[simp] theorem bnd_fail {α β : Type} (f : α → M β) : bnd (fail : M α) f = fail := rfl
@[simp] theorem bnd_bnd {α β γ : Type} (m : M α) (f : α → M β) (g : β → M γ) : bnd (bnd m f) g = bnd m fun a => bnd (f a) g := rfl
@[simp] theorem opt_some {α : Type} (a : α) : opt (some a) = ret a := rfl
@[simp] theorem opt_none {α : Type} : opt (none : Option α) = fail := rfl

abbrev EX := Rho → M Rr
/-- where a statement ends -/
inductive Fl where
  | nx (ρ : Rho) | rt (r : Re) | bk (ρ : Rho) | ct (ρ : Rho)
abbrev SX := Rho → M Fl
abbrev FX := List Ag → M Re

/-- read: whatever it is now -/
def rdv (e : EX) : Rho → M D := fun ρ => bnd (e ρ) fun r => opt (r.look ρ)
/-- kept for good -/
def fzv (e : EX) : Rho → M D := fun ρ => bnd (e ρ) fun r => opt r.fzn
def cst (d : D) : EX := fun _ => ret (.val d)
def var (i : Nat) : EX := fun ρ => match ρ[i]? with
  | some (.rd d) => if box d = true then ret (.al i) else ret (.val d)
  | some (.fz d) => ret (.val d)
  | some (.own _) => ret (.al i)
  | some .pot => ret .pot
  | _ => fail
/-- one value of one, of two -/
def op1 (f : D → Option D) (a : EX) : EX := fun ρ => bnd (rdv a ρ) fun x => bnd (opt (f x)) fun z => ret (.val z)
def op2 (f : D → D → Option D) (a b : EX) : EX := fun ρ => bnd (rdv a ρ) fun x => bnd (rdv b ρ) fun y => bnd (opt (f x y)) fun z => ret (.val z)
/-- a new thing of one, of two -/
def ne1 (f : D → Option D) (a : EX) : EX := fun ρ => bnd (rdv a ρ) fun x => bnd (opt (f x)) fun z => ret (.fr z)
def ne2 (f : D → D → Option D) (a b : EX) : EX := fun ρ => bnd (rdv a ρ) fun x => bnd (rdv b ρ) fun y => bnd (opt (f x y)) fun z => ret (.fr z)
/-- tests -/
def tst (a : EX) : Rho → M Bool := fun ρ => bnd (rdv a ρ) fun x => match x with
  | .bool b => ret b
  | _ => fail
def tand (a b : Rho → M Bool) : Rho → M Bool := fun ρ => bnd (a ρ) fun x => if x = true then b ρ else ret false
def tor (a b : Rho → M Bool) : Rho → M Bool := fun ρ => bnd (a ρ) fun x => if x = true then ret true else b ρ
def tnot (a : Rho → M Bool) : Rho → M Bool := fun ρ => bnd (a ρ) fun x => ret (!x)
/-- a test as a value -/
def ofT (t : Rho → M Bool) : EX := fun ρ => bnd (t ρ) fun b => ret (.val (.bool b))
def ife (t : Rho → M Bool) (a b : EX) : EX := fun ρ => bnd (t ρ) fun c => if c = true then a ρ else b ρ
/-- several values that are kept -/
def fzl : List EX → Rho → M (List D)
  | [], _ => ret []
  | e :: es, ρ => bnd (fzv e ρ) fun d => bnd (fzl es ρ) fun ds => ret (d :: ds)
def tup (es : List EX) : EX := fun ρ => bnd (fzl es ρ) fun ds => ret (.val (.tuple ds))
def lis (es : List EX) : EX := fun ρ => bnd (fzl es ρ) fun ds => ret (.fr (.list ds))
/-- arguments -/
def ags : List EX → Rho → M (List Ag)
  | [], _ => ret []
  | e :: es, ρ => bnd (e ρ) fun r => bnd (opt (r.arg ρ)) fun d => bnd (ags es ρ) fun ds => ret (d :: ds)
def Re.rr : Re → Rr
  | .val d => .val d
  | .fr o => .fr o
def cal (f : FX) (es : List EX) : EX := fun ρ => bnd (ags es ρ) fun as => bnd (f as) fun r => ret r.rr

/-! ### what is walked, targets, comprehensions -/
/-- the things that are walked, one after another -/
abbrev WX := Rho → M (List D)
def items : D → Option (List D)
  | .list ds => some ds
  | .tuple ds => some ds
  | _ => none
def wls (a : EX) : WX := fun ρ => bnd (rdv a ρ) fun x => opt (items x)
abbrev TX := D → Rho → Option Rho
def tName (i : Nat) : TX := fun d ρ => if i < ρ.length then some (ρ.set i (.fz d)) else none
def tTup : List TX → TX := fun ts d ρ => match d with
  | .tuple ds => go ts ds ρ
  | _ => none
where go : List TX → List D → Rho → Option Rho
  | [], [], ρ => some ρ
  | t :: ts, d :: ds, ρ => (t d ρ).bind (go ts ds)
  | _, _, _ => none
/-- within a comprehension what was one's own is read alone; its own names hold nothing -/
def Sl.inn : Sl → Sl
  | .own o => .rd o
  | s => s
def inn (vs : List Nat) (ρ : Rho) : Rho := vs.foldl (fun ρ i => ρ.set i .un) (ρ.map Sl.inn)
/-- a comprehension's turns: ρ is the block's start -/
def lcGo (tg : TX) (t : Rho → M Bool) (e : EX) (ρ : Rho) : List D → List D → M (List D)
  | [], acc => ret acc
  | x :: xs, acc => bnd (opt (tg x ρ)) fun ρ1 => bnd (t ρ1) fun b => if b = true then bnd (fzv e ρ1) fun y => lcGo tg t e ρ xs (acc ++ [y]) else lcGo tg t e ρ xs acc
def lc (w : WX) (tg : TX) (t : Rho → M Bool) (e : EX) (vs : List Nat) : EX := fun ρ => bnd (w ρ) fun xs => bnd (lcGo tg t e (inn vs ρ) xs []) fun ys => ret (.fr (.list ys))
def yes : Rho → M Bool := fun _ => ret true

/-! ### statements -/
def sNil : SX := fun ρ => ret (.nx ρ)
def sSeq (s t : SX) : SX := fun ρ => bnd (s ρ) fun f => match f with
  | .nx ρ' => t ρ'
  | f => ret f
def sRet (e : EX) : SX := fun ρ => bnd (e ρ) fun r => bnd (opt (r.re ρ)) fun x => ret (.rt x)
def sIf (t : Rho → M Bool) (a b : SX) : SX := fun ρ => bnd (t ρ) fun c => if c = true then a ρ else b ρ
def sSet (i : Nat) (e : EX) : SX := fun ρ => bnd (e ρ) fun r => bnd (opt (r.sl ρ)) fun s => if i < ρ.length then ret (.nx (ρ.set i s)) else fail
/-- a, b = v -/
def sAsg (tg : TX) (e : EX) : SX := fun ρ => bnd (fzv e ρ) fun d => bnd (opt (tg d ρ)) fun ρ' => ret (.nx ρ')
def sDrop (e : EX) : SX := fun ρ => bnd (e ρ) fun _ => ret (.nx ρ)
def sBreak : SX := fun ρ => ret (.bk ρ)
def sCont : SX := fun ρ => ret (.ct ρ)
def sNever : SX := fun _ => fail
/-- what is one's own under a name is kept from here on as it is -/
def sFix (i : Nat) : SX := fun ρ => match ρ[i]? with
  | some (.own o) => ret (.nx (ρ.set i (.fz o)))
  | _ => fail
def forGo (tg : TX) (b : SX) : List D → SX
  | [], ρ => ret (.nx ρ)
  | x :: xs, ρ => bnd (opt (tg x ρ)) fun ρ1 => bnd (b ρ1) fun f => match f with
    | .nx ρ' => forGo tg b xs ρ'
    | .ct ρ' => forGo tg b xs ρ'
    | .bk ρ' => ret (.nx ρ')
    | .rt r => ret (.rt r)
def sFor (w : WX) (tg : TX) (b : SX) : SX := fun ρ => bnd (w ρ) fun xs => forGo tg b xs ρ
def whileGo (t : Rho → M Bool) (b : SX) : Nat → SX
  | 0, _ => fail
  | n + 1, ρ => bnd (t ρ) fun c => if c = true then bnd (b ρ) (fun f => match f with
    | .nx ρ' => whileGo t b n ρ'
    | .ct ρ' => whileGo t b n ρ'
    | .bk ρ' => ret (.nx ρ')
    | .rt r => ret (.rt r)) else ret (.nx ρ)
def sWhile (t : Rho → M Bool) (b : SX) : SX := fun ρ Q => ∃ n, whileGo t b n ρ Q
/-- a change of what is one's own under a name -/
def sOwn (i : Nat) (f : D → M D) : SX := fun ρ => match ρ[i]? with
  | some (.own o) => bnd (f o) fun o' => ret (.nx (ρ.set i (.own o')))
  | _ => fail

/-! ### a def -/
def agS : Ag → Sl
  | .d d => .rd d
  | .pot => .pot
/-- n parameters, m names in all -/
def fn (n m : Nat) (b : SX) : FX := fun as => if as.length = n then bnd (b (as.map agS ++ List.replicate (m - n) .un)) fun f => match f with
  | .rt r => ret r
  | .nx _ => ret (.val .none)
  | _ => fail else fail
end PV

set_option Elab.async false
set_option linter.all false
set_option maxRecDepth 100000
/-! PvO: the operations on values without a heap. -/
namespace PV
open PySem

mutual
def D.p : D → PyData
  | .none => .none
  | .bool b => .bool b
  | .int i => .int i
  | .str x => .str x
  | .list xs => .list (D.ps xs)
  | .tuple xs => .tuple (D.ps xs)
  | .dk _ => .dict []
  | .dt _ => .dict []
def D.ps : List D → List PyData
  | [] => []
  | x :: xs => D.p x :: D.ps xs
end
theorem D.ps_map : ∀ xs : List D, D.ps xs = xs.map D.p
  | [] => rfl
  | x :: xs => by rw [D.ps, D.ps_map xs]; rfl
def shp (d : D) : Bool := SeqAt.shaped d.p
def lim : Nat := 16777216
def eqB (a b : D) : Bool := PyData.eqv a.p b.p
def eqD (a b : D) : Option D := if shp a = true ∧ shp b = true then some (.bool (eqB a b)) else none
def neD (a b : D) : Option D := if shp a = true ∧ shp b = true then some (.bool (!eqB a b)) else none
def dlt (a b : D) : Bool := PySem.W.dataLt a.p b.p
def okLt (a b : D) : Bool := shp a && shp b && PySem.W.alike a.p b.p && !(match a with | .none => true | _ => false)
def ltD (a b : D) : Option D := match a, b with
  | .int i, .int j => some (.bool (decide (i < j)))
  | a, b => if okLt a b = true then some (.bool (dlt a b)) else none
def leD (a b : D) : Option D := match a, b with
  | .int i, .int j => some (.bool (decide (i ≤ j)))
  | _, _ => none
def gtD (a b : D) : Option D := match a, b with
  | .int i, .int j => some (.bool (decide (j < i)))
  | _, _ => none
def geD (a b : D) : Option D := match a, b with
  | .int i, .int j => some (.bool (decide (j ≤ i)))
  | _, _ => none
/-- a key -/
def kyOf : D → Option Ky
  | .int i => some (.inl i)
  | .str x => some (.inr x)
  | _ => none
def kysOf : List D → Option (List Ky)
  | [] => some []
  | d :: ds => match kyOf d, kysOf ds with
    | some k, some ks => some (k :: ks)
    | _, _ => none
def tkOf : D → Option (List Ky)
  | .tuple ds => kysOf ds
  | _ => none
def find {κ : Type} [DecidableEq κ] (l : List (κ × D)) (k : κ) : Option D := (l.find? fun p => decide (p.1 = k)).map (·.2)
/-- what a dict holds at a key -/
def dget (d x : D) : Option (Option D) := match d with
  | .dk l => (kyOf x).map (find l)
  | .dt l => (tkOf x).map (find l)
  | _ => none
def inD (x c : D) : Option D := match c with
  | .list ds => if shp x = true ∧ shp c = true then some (.bool (ds.any fun z => eqB z x)) else none
  | .tuple ds => if shp x = true ∧ shp c = true then some (.bool (ds.any fun z => eqB z x)) else none
  | c => (dget c x).map fun o => .bool o.isSome
def ninD (x c : D) : Option D := match c with
  | .list ds => if shp x = true ∧ shp c = true then some (.bool (!ds.any fun z => eqB z x)) else none
  | .tuple ds => if shp x = true ∧ shp c = true then some (.bool (!ds.any fun z => eqB z x)) else none
  | c => (dget c x).map fun o => .bool (!o.isSome)
def i2 (f : Int → Int → Int) (a b : D) : Option D := match a, b with
  | .int i, .int j => some (.int (f i j))
  | _, _ => none
def addD := i2 fun i j => i + j
def subD := i2 fun i j => i - j
def sml (i : Int) : Bool := decide (i.natAbs < 18446744073709551616)
def mulD (a b : D) : Option D := match a, b with
  | .int i, .int j => if sml i = true ∨ sml j = true then some (.int (i * j)) else none
  | _, _ => none
def fdivD (a b : D) : Option D := match a, b with
  | .int i, .int j => if 0 < j ∧ j.natAbs < 1073741824 then some (.int (i / j)) else none
  | _, _ => none
def modD (a b : D) : Option D := match a, b with
  | .int i, .int j => if 0 < j then some (.int (i % j)) else none
  | _, _ => none
/-- list + list: a new list -/
def catD (a b : D) : Option D := match a, b with
  | .list xs, .list ys => if xs.length + ys.length ≤ lim then some (.list (xs ++ ys)) else none
  | _, _ => none
/-- tuple + tuple -/
def tcatD (a b : D) : Option D := match a, b with
  | .tuple xs, .tuple ys => if xs.length + ys.length ≤ lim then some (.tuple (xs ++ ys)) else none
  | _, _ => none
def seqOf : D → Option (List D)
  | .list xs => some xs
  | .tuple xs => some xs
  | _ => none
def lenD : D → Option D
  | .list xs => some (.int xs.length)
  | .tuple xs => some (.int xs.length)
  | .dk l => some (.int l.length)
  | .dt l => some (.int l.length)
  | _ => none
def ixn (n : Nat) (i : Int) : Option Nat := if 0 ≤ i then (if i < n then some i.toNat else none) else if -(n : Int) ≤ i then some (i + n).toNat else none
def at_ (xs : List D) (i : Int) : Option D := (ixn xs.length i).bind fun j => xs[j]?
def ixD (a i : D) : Option D := match a with
  | .list xs => match i with
    | .int i => at_ xs i
    | _ => none
  | .tuple xs => match i with
    | .int i => at_ xs i
    | _ => none
  | d => (dget d i).bind id
def isInst (t : String) : D → Bool
  | .none => false
  | .bool _ => t == "bool" || t == "int"
  | .int _ => t == "int"
  | .str _ => t == "str"
  | .list _ => t == "list"
  | .tuple _ => t == "tuple"
  | .dk _ => t == "dict"
  | .dt _ => t == "dict"
def isNon : D → Bool
  | .none => true
  | _ => false
/-- whether a list can be sorted -/
def okSort (ds : List D) : Bool := ds.all (fun a => shp a && !isNon a && ds.all fun b => PySem.W.alike a.p b.p) &&
  (ds.all (fun a => match a with | .tuple (_ :: _) => true | _ => false) || ds.all (fun a => match a with | .tuple _ => false | _ => true))
def dsort (ds : List D) : List D := ds.mergeSort (PySem.W.dataLe false D.p)
def sortD : D → Option D
  | .list ds => if okSort ds = true then some (.list (dsort ds)) else none
  | _ => none
def listD (d : D) : Option D := (seqOf d).map D.list
def tupD (d : D) : Option D := (seqOf d).map D.tuple
def rng (lo hi : Int) : List D := (List.range (hi - lo).toNat).map fun i => .int (lo + (i : Nat))
def okRng (lo hi : Int) : Bool := decide (lo.natAbs ≤ 2305843009213693952 ∧ hi.natAbs ≤ 2305843009213693952 ∧ (hi - lo).toNat ≤ lim)
def intL : List D → Option (List Int)
  | [] => some []
  | .int i :: ds => (intL ds).map (i :: ·)
  | _ => none
def boolL : List D → Option (List Bool)
  | [] => some []
  | .bool i :: ds => (boolL ds).map (i :: ·)
  | _ => none
def allD : D → Option D
  | .list ds => (boolL ds).map fun bs => .bool (bs.all id)
  | _ => none
def anyD : D → Option D
  | .list ds => (boolL ds).map fun bs => .bool (bs.any id)
  | _ => none
def maxI : List Int → Option Int
  | [] => none
  | i :: is => some (is.foldl (fun a b => if b > a then b else a) i)
def minI : List Int → Option Int
  | [] => none
  | i :: is => some (is.foldl (fun a b => if b < a then b else a) i)
def maxD : D → Option D
  | .list ds => ((intL ds).bind maxI).map D.int
  | _ => none
def minD : D → Option D
  | .list ds => ((intL ds).bind minI).map D.int
  | _ => none
def sumD : D → Option D
  | .list ds => (intL ds).map fun is => .int is.sum
  | _ => none
def min2D := i2 fun i j => if j < i then j else i
def max2D := i2 fun i j => if j > i then j else i
def absD : D → Option D
  | .int i => some (.int (if i < 0 then -i else i))
  | _ => none
def intD : D → Option D
  | .int i => some (.int i)
  | .bool b => some (.int (if b then 1 else 0))
  | _ => none
end PV

set_option Elab.async false
set_option linter.all false
set_option maxRecDepth 100000
set_option maxHeartbeats 1000000
/-! PvR: how values without a heap lie in the heap of the hand layer; judgements. -/
namespace PV
open PySem PySem.Spec L2
abbrev Sg := L2.St

theorem Same.mono_t {K : PySem.W.Frag} {H H' : Hp} {a : Addr} {xs : List V} (e : Same H H') (h : H a = some (.tup xs)) : H' a = some (.tup xs) := e _ _ h
theorem Same.rd {H H' : Hp} {a : Addr} {u : HO} (e : Same H H') (h : Rd H a u) : Rd H' a u := by
  rcases h with h | ⟨o, h⟩
  · exact .inl (e _ _ h)
  · exact .inr ⟨o, e _ _ h⟩

theorem Same.sq {K : PySem.W.Frag} {H H' : Hp} {a : Addr} {xs : List V} (e : Same H H') (h : SqL K H a xs) : SqL K H' a xs := h.elim (fun h => .inl (Same.rd e h)) .inr

/-! ### values -/
mutual
inductive Rv (K : PySem.W.Frag) (F : Hp) : V → D → Prop
  | non : Rv K F .non .none
  | bl (b : Bool) : Rv K F (.bl b) (.bool b)
  | int (i : Int) : Rv K F (.int i) (.int i)
  | str (x : Str) : Rv K F (.str x) (.str x)
  | tup {a : Addr} {xs : List V} {ds : List D} : F a = some (.tup xs) → RvL K F xs ds → ds.length ≤ sizeLine → Rv K F (.ref a) (.tuple ds)
  | lst {a : Addr} {xs : List V} {ds : List D} : Rd F a (.lst xs) → RvL K F xs ds → ds.length ≤ sizeLine → Rv K F (.ref a) (.list ds)
  | dik {a : Addr} {l : List (Key × V)} {l2 : List (Ky × D)} : Rd F a (.dK l) → RvK K F l l2 → Rv K F (.ref a) (.dk l2)
  | dit {a : Addr} {l : List (List Key × V)} {l2 : List (List Ky × D)} : Rd F a (.dT l) → RvT K F l l2 → Rv K F (.ref a) (.dt l2)
inductive RvL (K : PySem.W.Frag) (F : Hp) : List V → List D → Prop
  | nil : RvL K F [] []
  | cons {v : V} {vs : List V} {d : D} {ds : List D} : Rv K F v d → RvL K F vs ds → RvL K F (v :: vs) (d :: ds)
inductive RvK (K : PySem.W.Frag) (F : Hp) : List (Key × V) → List (Ky × D) → Prop
  | nil : RvK K F [] []
  | cons {k : Key} {v : V} {vs : List (Key × V)} {d : D} {ds : List (Ky × D)} : Rv K F v d → RvK K F vs ds → RvK K F ((k, v) :: vs) ((k, d) :: ds)
inductive RvT (K : PySem.W.Frag) (F : Hp) : List (List Key × V) → List (List Ky × D) → Prop
  | nil : RvT K F [] []
  | cons {k : List Key} {v : V} {vs : List (List Key × V)} {d : D} {ds : List (List Ky × D)} : Rv K F v d → RvT K F vs ds → RvT K F ((k, v) :: vs) ((k, d) :: ds)
end
section
variable {K : PySem.W.Frag} {F F' : Hp}
mutual
theorem Rv.mono (e : Same F F') : ∀ {v : V} {d : D}, Rv K F v d → Rv K F' v d
  | _, _, .non => .non
  | _, _, .bl b => .bl b
  | _, _, .int i => .int i
  | _, _, .str x => .str x
  | _, _, .tup h r z => .tup (e _ _ h) (RvL.mono e r) z
  | _, _, .lst h r z => .lst (Same.rd e h) (RvL.mono e r) z
  | _, _, .dik h r => .dik (Same.rd e h) (RvK.mono e r)
  | _, _, .dit h r => .dit (Same.rd e h) (RvT.mono e r)
theorem RvL.mono (e : Same F F') : ∀ {v : List V} {d : List D}, RvL K F v d → RvL K F' v d
  | _, _, .nil => .nil
  | _, _, .cons h r => .cons (Rv.mono e h) (RvL.mono e r)
theorem RvK.mono (e : Same F F') : ∀ {v : List (Key × V)} {d : List (Ky × D)}, RvK K F v d → RvK K F' v d
  | _, _, .nil => .nil
  | _, _, .cons h r => .cons (Rv.mono e h) (RvK.mono e r)
theorem RvT.mono (e : Same F F') : ∀ {v : List (List Key × V)} {d : List (List Ky × D)}, RvT K F v d → RvT K F' v d
  | _, _, .nil => .nil
  | _, _, .cons h r => .cons (Rv.mono e h) (RvT.mono e r)
end
theorem RvL.length : ∀ {v : List V} {d : List D}, RvL K F v d → v.length = d.length
  | _, _, .nil => rfl
  | _, _, .cons _ r => by rw [List.length_cons, List.length_cons, RvL.length r]
theorem RvK.length : ∀ {v : List (Key × V)} {d : List (Ky × D)}, RvK K F v d → v.length = d.length
  | _, _, .nil => rfl
  | _, _, .cons _ r => by rw [List.length_cons, List.length_cons, RvK.length r]
theorem RvT.length : ∀ {v : List (List Key × V)} {d : List (List Ky × D)}, RvT K F v d → v.length = d.length
  | _, _, .nil => rfl
  | _, _, .cons _ r => by rw [List.length_cons, List.length_cons, RvT.length r]
theorem RvL.at : ∀ {v : List V} {d : List D} {i : Nat} {x : V}, RvL K F v d → v[i]? = some x → ∃ y, d[i]? = some y ∧ Rv K F x y
  | _, _, i, x, .nil, e => by simp at e
  | _, _, 0, x, .cons h r, e => by simp at e; subst e; exact ⟨_, by simp, h⟩
  | _, _, i + 1, x, .cons h r, e => by simpa using RvL.at (i := i) (x := x) r (by simpa using e)
theorem RvL.at' : ∀ {v : List V} {d : List D} {i : Nat} {y : D}, RvL K F v d → d[i]? = some y → ∃ x, v[i]? = some x ∧ Rv K F x y
  | _, _, i, x, .nil, e => by simp at e
  | _, _, 0, x, .cons h r, e => by simp at e; subst e; exact ⟨_, by simp, h⟩
  | _, _, i + 1, x, .cons h r, e => by simpa using RvL.at' (i := i) (y := x) r (by simpa using e)
theorem RvL.append : ∀ {v v' : List V} {d d' : List D}, RvL K F v d → RvL K F v' d' → RvL K F (v ++ v') (d ++ d')
  | _, _, _, _, .nil, s => s
  | _, _, _, _, .cons h r, s => .cons h (RvL.append r s)
end

/-- top: what stands at the value itself may be read in the heap G, all within is kept for good -/
def TopR (K : PySem.W.Frag) (F G : Hp) (v : V) : D → Prop
  | .list ds => ∃ a xs, v = .ref a ∧ SqL K G a xs ∧ RvL K F xs ds ∧ ds.length ≤ sizeLine
  | .dk l2 => ∃ a l, v = .ref a ∧ Rd G a (.dK l) ∧ RvK K F l l2
  | .dt l2 => ∃ a l, v = .ref a ∧ Rd G a (.dT l) ∧ RvT K F l l2
  | d => Rv K F v d
theorem TopR.of {K : PySem.W.Frag} {F G : Hp} {v : V} {d : D} (e : Same F G) (h : Rv K F v d) : TopR K F G v d := by
  cases h with
  | lst h r z => exact ⟨_, _, rfl, .inl (Same.rd e h), r, z⟩
  | dik h r => exact ⟨_, _, rfl, Same.rd e h, r⟩
  | dit h r => exact ⟨_, _, rfl, Same.rd e h, r⟩
  | non => exact .non
  | bl => exact .bl _
  | int => exact .int _
  | str => exact .str _
  | tup h r z => exact .tup h r z
theorem TopR.mono {K : PySem.W.Frag} {F F' G G' : Hp} {v : V} {d : D} (e : Same F F') (g : Same G G') (h : TopR K F G v d) : TopR K F' G' v d := by
  cases d with
  | list ds => obtain ⟨a, xs, e1, h1, h2, z⟩ := h; exact ⟨a, xs, e1, Same.sq g h1, h2.mono e, z⟩
  | dk => obtain ⟨a, l, e1, h1, h2⟩ := h; exact ⟨a, l, e1, Same.rd g h1, h2.mono e⟩
  | dt => obtain ⟨a, l, e1, h1, h2⟩ := h; exact ⟨a, l, e1, Same.rd g h1, h2.mono e⟩
  | _ => exact Rv.mono e h
theorem TopR.rv {K : PySem.W.Frag} {F G : Hp} {v : V} {d : D} (h : TopR K F G v d) (b : box d = false) : Rv K F v d := by
  cases d with
  | list ds => cases b
  | dk => cases b
  | dt => cases b
  | _ => exact h
/-- a new thing at p -/
def ObR (K : PySem.W.Frag) (F G : Hp) (p : Addr) : D → Prop
  | .list ds => ∃ xs, G p = some (.lst xs) ∧ RvL K F xs ds ∧ ds.length ≤ sizeLine
  | .dk l2 => ∃ l, G p = some (.dK l) ∧ RvK K F l l2
  | .dt l2 => ∃ l, G p = some (.dT l) ∧ RvT K F l l2
  | _ => False
theorem ObR.there {K : PySem.W.Frag} {F G : Hp} {p : Addr} {o : D} (h : ObR K F G p o) : ∃ u, G p = some u := by
  cases o with
  | list => obtain ⟨_, h, _⟩ := h; exact ⟨_, h⟩
  | dk => obtain ⟨_, h, _⟩ := h; exact ⟨_, h⟩
  | dt => obtain ⟨_, h, _⟩ := h; exact ⟨_, h⟩
  | _ => exact h.elim
theorem ObR.notup {K : PySem.W.Frag} {F G : Hp} {p : Addr} {o : D} (h : ObR K F G p o) : ∃ u, G p = some u ∧ ∀ xs, u ≠ .tup xs := by
  cases o with
  | list => obtain ⟨_, h, _⟩ := h; exact ⟨_, h, fun _ z => nomatch z⟩
  | dk => obtain ⟨_, h, _⟩ := h; exact ⟨_, h, fun _ z => nomatch z⟩
  | dt => obtain ⟨_, h, _⟩ := h; exact ⟨_, h, fun _ z => nomatch z⟩
  | _ => exact h.elim
theorem ObR.top {K : PySem.W.Frag} {F G : Hp} {p : Addr} {o : D} (h : ObR K F G p o) : TopR K F G (.ref p) o := by
  cases o with
  | list => obtain ⟨_, h, r, z⟩ := h; exact ⟨_, _, rfl, .inl (.inl h), r, z⟩
  | dk => obtain ⟨_, h, r⟩ := h; exact ⟨_, _, rfl, .inl h, r⟩
  | dt => obtain ⟨_, h, r⟩ := h; exact ⟨_, _, rfl, .inl h, r⟩
  | _ => exact h.elim
theorem ObR.mono {K : PySem.W.Frag} {F F' G G' : Hp} {p : Addr} {o : D} (e : Same F F') (g : ∀ u, G p = some u → G' p = some u) (h : ObR K F G p o) : ObR K F' G' p o := by
  cases o with
  | list => obtain ⟨_, h, r, z⟩ := h; exact ⟨_, g _ h, r.mono e, z⟩
  | dk => obtain ⟨_, h, r⟩ := h; exact ⟨_, g _ h, r.mono e⟩
  | dt => obtain ⟨_, h, r⟩ := h; exact ⟨_, g _ h, r.mono e⟩
  | _ => exact h.elim

/-! ### heaps: the pot at pt apart; what is kept for good (F); what stood at the entry (R) -/
def hid (H : Hp) (pt : Option Addr) : Hp := fun a => if pt = some a then none else H a
def PotAt (H : Hp) (a : Addr) : Prop := ∃ x y z : Int, H a = some (.lst [.int x, .int y, .int z]) ∧ 0 ≤ x ∧ 0 ≤ y ∧ y < 2147483648 ∧ 0 ≤ z
theorem hid_ne {H : Hp} {pt : Option Addr} {a : Addr} (h : pt ≠ some a) : hid H pt a = H a := by unfold hid; rw [if_neg h]
theorem hid_pt {H : Hp} {pt : Option Addr} {a : Addr} (h : pt = some a) : hid H pt a = none := by unfold hid; rw [if_pos h]
theorem hid_some {H : Hp} {pt : Option Addr} {a : Addr} {o : HO} (h : hid H pt a = some o) : pt ≠ some a ∧ H a = some o := by
  unfold hid at h
  by_cases c : pt = some a
  · rw [if_pos c] at h; cases h
  · rw [if_neg c] at h; exact ⟨c, h⟩
theorem hid_same {H : Hp} {pt : Option Addr} : Same (hid H pt) H := fun _ _ h => (hid_some h).2
theorem hid_mono {H H' : Hp} {pt : Option Addr} (e : Same (hid H pt) H') : Same (hid H pt) (hid H' pt) := fun a o h => by
  rw [hid_ne (hid_some h).1]; exact e a o h
structure Fr (pt : Option Addr) (F R F2 H2 : Hp) : Prop where
  ff : Same F F2
  fn : ∀ a, R a ≠ none → F2 a = F a ∨ ∃ xs, R a = some (.tup xs)
  rh : Same R H2
  rp : ∀ a, pt = some a → R a = none
  fh : Same F2 (hid H2 pt)
  pot : ∀ a, pt = some a → PotAt H2 a
theorem Fr.refl {pt : Option Addr} {F H : Hp} (h : Same F (hid H pt)) (p : ∀ a, pt = some a → PotAt H a) : Fr pt F (hid H pt) F H :=
  ⟨Same.refl _, fun _ _ => .inl rfl, hid_same, fun _ e => hid_pt e, h, p⟩
theorem Fr.rhid {pt : Option Addr} {F R F2 H2 : Hp} (a : Fr pt F R F2 H2) : Same R (hid H2 pt) := fun c o h => by
  have : pt ≠ some c := fun e => by rw [a.rp c e] at h; cases h
  rw [hid_ne this]; exact a.rh c o h
theorem Fr.trans {pt : Option Addr} {F R F1 H1 F2 H2 : Hp} (a : Fr pt F R F1 H1) (b : Fr pt F1 (hid H1 pt) F2 H2) : Fr pt F R F2 H2 := by
  refine ⟨a.ff.trans b.ff, fun c h => ?_, fun c o h => b.rh c o (a.rhid c o h), a.rp, b.fh, b.pot⟩
  cases e : R c with
  | none => exact absurd e h
  | some o =>
    have h1 : hid H1 pt c = some o := a.rhid c o e
    rcases b.fn c (by rw [h1]; exact fun z => nomatch z) with q | ⟨xs, q⟩
    · rcases a.fn c h with q2 | ⟨xs, q2⟩
      · exact .inl (q.trans q2)
      · exact .inr ⟨xs, e.symm.trans q2⟩
    · rw [h1] at q
      exact .inr ⟨xs, q⟩
/-- what stands kept: from the end -/
theorem Fr.again {pt : Option Addr} {F R F1 H1 : Hp} (a : Fr pt F R F1 H1) : Fr pt F1 (hid H1 pt) F1 H1 := .refl a.fh a.pot
theorem Fr.fsame {pt : Option Addr} {F R F1 H1 : Hp} (a : Fr pt F R F1 H1) : Same F1 H1 := fun c o h => hid_same c o (a.fh c o h)
/-- a new thing is kept for good -/
theorem Fr.grow {pt : Option Addr} {F R F2 H2 : Hp} {p : Addr} {u : HO} (a : Fr pt F R F2 H2) (hr : R p = none) (hp : pt ≠ some p) (hf : F2 p = none) (hu : H2 p = some u) : Fr pt F R (upd F2 p u) H2 := by
  refine ⟨fun c o h => ?_, fun c h => ?_, a.rh, a.rp, fun c o h => ?_, a.pot⟩
  · rw [upd_ne (ne_of_none (a.ff c o h) hf)]; exact a.ff c o h
  · have : c ≠ p := fun e => h (e ▸ hr)
    rw [upd_ne this]; exact a.fn c h
  · by_cases e : c = p
    · subst e
      rw [upd_same] at h; cases h
      rw [hid_ne hp]; exact hu
    · rw [upd_ne e] at h; exact a.fh c o h
/-- a tuple that stands is kept for good -/
theorem Fr.tup {pt : Option Addr} {F R F2 H2 : Hp} {p : Addr} {xs : List V} (a : Fr pt F R F2 H2) (hu : H2 p = some (.tup xs)) : ∃ F3, Fr pt F R F3 H2 ∧ Same F2 F3 ∧ F3 p = some (.tup xs) := by
  cases hf : F2 p with
  | some o =>
    have e := a.fh p o hf
    have e2 := (hid_some e).2
    rw [hu] at e2
    cases e2
    exact ⟨F2, a, Same.refl _, hf⟩
  | none =>
    have np : pt ≠ some p := fun e => by obtain ⟨x, y, z, h, _⟩ := a.pot p e; rw [hu] at h; cases h
    refine ⟨upd F2 p (.tup xs), ⟨fun c o h => ?_, fun c h => ?_, a.rh, a.rp, fun c o h => ?_, a.pot⟩, fun c o h => ?_, upd_same⟩
    · rw [upd_ne (ne_of_none (a.ff c o h) hf)]; exact a.ff c o h
    · by_cases e : c = p
      · subst e
        cases q : R c with
        | none => exact absurd q h
        | some o =>
          have e3 := a.rh c o q
          rw [hu] at e3
          cases e3
          exact .inr ⟨xs, rfl⟩
      · rw [upd_ne e]; exact a.fn c h
    · by_cases e : c = p
      · subst e
        rw [upd_same] at h; cases h
        rw [hid_ne np]; exact hu
      · rw [upd_ne e] at h; exact a.fh c o h
    · rw [upd_ne (ne_of_none h hf)]; exact h
/-- a new thing stands in the heap -/
theorem Fr.new {pt : Option Addr} {F R F2 H2 : Hp} {p : Addr} {u : HO} (a : Fr pt F R F2 H2) (hp : H2 p = none) : Fr pt F R F2 (upd H2 p u) := by
  have np : pt ≠ some p := fun e => by obtain ⟨x, y, z, h, _⟩ := a.pot p e; rw [hp] at h; cases h
  refine ⟨a.ff, a.fn, fun c o h => ?_, a.rp, fun c o h => ?_, fun c e => ?_⟩
  · have h1 := a.rh c o h
    rw [upd_ne (ne_of_none h1 hp)]; exact h1
  · obtain ⟨h1, h2⟩ := hid_some (a.fh c o h)
    rw [hid_ne h1, upd_ne (ne_of_none h2 hp)]; exact h2
  · have : c ≠ p := fun z => np (z ▸ e)
    obtain ⟨x, y, z, h, q⟩ := a.pot c e
    exact ⟨x, y, z, by rw [upd_ne this]; exact h, q⟩
theorem Fr.fresh {pt : Option Addr} {F R F2 H2 : Hp} {p : Addr} (a : Fr pt F R F2 H2) (hp : H2 p = none) : R p = none ∧ pt ≠ some p ∧ F2 p = none := by
  refine ⟨?_, fun e => ?_, ?_⟩
  · cases e : R p with
    | none => rfl
    | some o => rw [a.rh p o e] at hp; cases hp
  · obtain ⟨x, y, z, h, _⟩ := a.pot p e; rw [hp] at h; cases h
  · cases e : F2 p with
    | none => rfl
    | some o => rw [a.fsame p o e] at hp; cases hp

/-- the entry: what was kept, what stood, where the pot is -/
structure Bs where
  F0 : Hp
  R : Hp
  pt : Option Addr
def SlR (K : PySem.W.Frag) (B : Bs) (F H : Hp) (x : Option (Option V)) : Sl → Prop
  | .un => True
  | .rd d => ∃ v, x = some (some v) ∧ TopR K F B.R v d
  | .fz d => ∃ v, x = some (some v) ∧ Rv K F v d
  | .own o => ∃ p, x = some (some (.ref p)) ∧ B.R p = none ∧ B.pt ≠ some p ∧ F p = none ∧ ObR K F H p o
  | .pot => ∃ a, x = some (some (.ref a)) ∧ B.pt = some a
structure Rp (K : PySem.W.Frag) (B : Bs) (F : Hp) (σ : Sg) (H : Hp) (ρ : Rho) : Prop where
  fr : Fr B.pt B.F0 B.R F H
  len : ρ.length = σ.length
  sl : ∀ (i : Nat) (s : Sl), ρ[i]? = some s → SlR K B F H σ[i]? s
  di : ∀ (i j : Nat) (o o' : D) (p : Addr), i ≠ j → ρ[i]? = some (.own o) → ρ[j]? = some (.own o') → σ[i]? = some (some (.ref p)) → σ[j]? ≠ some (some (.ref p))
theorem Rp.fra {K : PySem.W.Frag} {B : Bs} {F F2 H H2 : Hp} {σ : Sg} {ρ : Rho} (r : Rp K B F σ H ρ) (f : Fr B.pt F (hid H B.pt) F2 H2) : Rp K B F2 σ H2 ρ := by
  refine ⟨r.fr.trans f, r.len, fun i s e => ?_, r.di⟩
  have q := r.sl i s e
  cases s with
  | un => trivial
  | rd d => obtain ⟨v, e1, h⟩ := q; exact ⟨v, e1, h.mono f.ff (Same.refl _)⟩
  | fz d => obtain ⟨v, e1, h⟩ := q; exact ⟨v, e1, h.mono f.ff⟩
  | own o =>
    obtain ⟨p, e1, h1, h2, h3, h4⟩ := q
    obtain ⟨u, hu, nt⟩ := h4.notup
    have hh : hid H B.pt p = some u := by rw [hid_ne h2]; exact hu
    refine ⟨p, e1, h1, h2, ?_, h4.mono f.ff fun u' hu' => f.rh p u' (by rw [hid_ne h2]; exact hu')⟩
    rcases f.fn p (by rw [hh]; exact fun z => nomatch z) with q | ⟨xs, q⟩
    · rw [q]; exact h3
    · rw [hh] at q; cases q; exact absurd rfl (nt xs)
  | pot => exact q
/-- what an expression gave -/
def RrR (K : PySem.W.Frag) (pt : Option Addr) (R F2 H2 : Hp) (σ : Sg) (ρ : Rho) (v : V) : Rr → Prop
  | .val d => Rv K F2 v d
  | .al i => σ[i]? = some (some v) ∧ ((∃ d, ρ[i]? = some (.rd d)) ∨ ∃ o, ρ[i]? = some (.own o))
  | .fr o => ∃ p, v = .ref p ∧ R p = none ∧ pt ≠ some p ∧ F2 p = none ∧ ObR K F2 H2 p o
  | .pot => ∃ a, v = .ref a ∧ pt = some a
def lft (X : Cx) (p : EX) : TE := fun σ H Q => ∃ B F ρ Q', Rp X.K B F σ H ρ ∧ p ρ Q' ∧
  ∀ v H2 F2 r, Fr B.pt F (hid H B.pt) F2 H2 → RrR X.K B.pt (hid H B.pt) F2 H2 σ ρ v r → Q' r → Q v H2
/-- an expression does what p tells -/
def PX (X : Cx) (e : Expr) (p : EX) : Prop := PE X e (lft X p)
theorem PE.weak {X : Cx} {e : Expr} {t t' : TE} (h : PE X e t) (w : ∀ σ H Q, t' σ H Q → t σ H Q) : PE X e t' := ⟨fun pins s σ H Q I q => h.run pins s σ H Q I (w _ _ _ q)⟩
theorem PT.weak {X : Cx} {e : Expr} {t t' : TT} (h : PT X e t) (w : ∀ σ H Q, t' σ H Q → t σ H Q) : PT X e t' := ⟨fun pins s σ H Q I q => h.run pins s σ H Q I (w _ _ _ q)⟩
theorem PA.weak {X : Cx} {e : List Expr} {t t' : TA} (h : PA X e t) (w : ∀ σ H Q, t' σ H Q → t σ H Q) : PA X e t' := ⟨fun pos pins s σ H Q I q => h.run pos pins s σ H Q I (w _ _ _ q)⟩
theorem PS.weak {X : Cx} {e : Stmt} {t t' : TS} (h : PS X e t) (w : ∀ D σ H, t' D σ H → t D σ H) : PS X e t' := ⟨fun pins s σ H D I q => h.run pins s σ H D I (w _ _ _ q)⟩
theorem PSs.weak {X : Cx} {e : List Stmt} {t t' : TS} (h : PSs X e t) (w : ∀ D σ H, t' D σ H → t D σ H) : PSs X e t' := ⟨fun pins s σ H D I q => h.run pins s σ H D I (w _ _ _ q)⟩
/-- what was given, read -/
theorem RrR.look {K : PySem.W.Frag} {B : Bs} {F F2 H H2 : Hp} {σ : Sg} {ρ : Rho} {v : V} {r : Rr} {d : D} (rp : Rp K B F σ H ρ) (f : Fr B.pt F (hid H B.pt) F2 H2) (q : RrR K B.pt (hid H B.pt) F2 H2 σ ρ v r)
    (e : r.look ρ = some d) : TopR K F2 (hid H2 B.pt) v d := by
  cases r with
  | val d' => cases e; exact TopR.of f.fh q
  | pot => cases e
  | fr o =>
    cases e
    obtain ⟨p, rfl, h1, h2, h3, h4⟩ := q
    exact (h4.mono (Same.refl _) fun u hu => by rw [hid_ne h2]; exact hu).top
  | al i =>
    have rp2 := rp.fra f
    obtain ⟨e1, q⟩ := q
    rcases q with ⟨d', e2⟩ | ⟨o, e2⟩
    · have e3 : (some d' : Option D) = some d := by
        have : (Rr.al i).look ρ = some d' := by show (match ρ[i]? with | some s => s.data | none => none) = _; rw [e2]; rfl
        rw [← this]; exact e
      cases e3
      obtain ⟨v', e4, h⟩ := rp2.sl i _ e2
      rw [e1] at e4
      cases e4
      exact h.mono (Same.refl _) rp2.fr.rhid
    · have e3 : (some o : Option D) = some d := by
        have : (Rr.al i).look ρ = some o := by show (match ρ[i]? with | some s => s.data | none => none) = _; rw [e2]; rfl
        rw [← this]; exact e
      cases e3
      obtain ⟨p, e4, h1, h2, h3, h4⟩ := rp2.sl i _ e2
      rw [e1] at e4
      cases e4
      exact (h4.mono (Same.refl _) fun u hu => by rw [hid_ne h2]; exact hu).top
/-- what was given, kept for good -/
theorem RrR.fzn {K : PySem.W.Frag} {pt : Option Addr} {F R F2 H2 : Hp} {σ : Sg} {ρ : Rho} {v : V} {r : Rr} {d : D} (f : Fr pt F R F2 H2) (q : RrR K pt R F2 H2 σ ρ v r) (e : r.fzn = some d) :
    ∃ F3, Fr pt F R F3 H2 ∧ Rv K F3 v d ∧ Same F2 F3 := by
  cases r with
  | val d' => cases e; exact ⟨F2, f, q, Same.refl _⟩
  | pot => cases e
  | al i => cases e
  | fr o =>
    cases e
    obtain ⟨p, rfl, h1, h2, h3, h4⟩ := q
    obtain ⟨u, hu⟩ := h4.there
    have g := f.grow h1 h2 h3 hu
    have sm : Same F2 (upd F2 p u) := fun c o h => by rw [upd_ne (ne_of_none h h3)]; exact h
    refine ⟨_, g, ?_, sm⟩
    cases d with
    | list ds => obtain ⟨xs, k1, k2, z⟩ := h4; rw [hu] at k1; cases k1; exact .lst (.inl upd_same) (k2.mono sm) z
    | dk l2 => obtain ⟨xs, k1, k2⟩ := h4; rw [hu] at k1; cases k1; exact .dik (.inl upd_same) (k2.mono sm)
    | dt l2 => obtain ⟨xs, k1, k2⟩ := h4; rw [hu] at k1; cases k1; exact .dit (.inl upd_same) (k2.mono sm)
    | _ => exact h4.elim
end PV

set_option Elab.async false
set_option linter.all false
set_option maxRecDepth 100000
set_option maxHeartbeats 1000000
/-! PvE: rules of expressions over values without a heap. -/
namespace PV
open PySem PySem.Spec L2

/-- one value more: what is to be done with it, behind it -/
def u1 (m : D → M Rr) (a : EX) : EX := fun ρ => bnd (rdv a ρ) m
def u2 (m : D → D → M Rr) (a b : EX) : EX := fun ρ => bnd (rdv a ρ) fun x => bnd (rdv b ρ) (m x)
def vl (f : D → Option D) : D → M Rr := fun x => bnd (opt (f x)) fun z => ret (.val z)
def vl2 (f : D → D → Option D) : D → D → M Rr := fun x y => bnd (opt (f x y)) fun z => ret (.val z)
def nw (f : D → Option D) : D → M Rr := fun x => bnd (opt (f x)) fun z => ret (.fr z)
def nw2 (f : D → D → Option D) : D → D → M Rr := fun x y => bnd (opt (f x y)) fun z => ret (.fr z)
theorem opt_ok {α β : Type} {o : Option α} {f : α → M β} {Q : β → Prop} (h : bnd (opt o) f Q) : ∃ a, o = some a ∧ f a Q := by
  cases o with
  | none => exact h.elim
  | some a => exact ⟨a, rfl, h⟩

/-- what follows -/
def Kt (X : Cx) (pt : Option Addr) (F R : Hp) (σ : Sg) (ρ : Rho) (Q' : Rr → Prop) (Q : VK) : Prop := ∀ v H2 F2 q, Fr pt F R F2 H2 → RrR X.K pt R F2 H2 σ ρ v q → Q' q → Q v H2
section
variable {X : Cx} {pt : Option Addr} {F R F1 H1 : Hp} {σ : Sg} {ρ : Rho} {Q' : Rr → Prop} {Q : VK}
theorem Kt.val {v : V} {d : D} (k : Kt X pt F R σ ρ Q' Q) (f : Fr pt F R F1 H1) (r : Rv X.K F1 v d) (q : Q' (.val d)) : Q v H1 := k v H1 F1 (.val d) f r q
theorem Kt.tup {p : Addr} {xs : List V} {ds : List D} (k : Kt X pt F R σ ρ Q' Q) (f : Fr pt F R F1 H1) (hp : H1 p = none) (r : RvL X.K F1 xs ds) (z : ds.length ≤ sizeLine) (q : Q' (.val (.tuple ds))) : Q (.ref p) (upd H1 p (.tup xs)) := by
  obtain ⟨h1, h2, h3⟩ := f.fresh hp
  have g := (f.new (u := .tup xs) hp).grow h1 h2 h3 upd_same
  have sm : Same F1 (upd F1 p (.tup xs)) := fun c o h => by rw [upd_ne (ne_of_none h h3)]; exact h
  exact k _ _ _ (.val (.tuple ds)) g (.tup upd_same (r.mono sm) z) q
theorem Kt.lst {p : Addr} {xs : List V} {ds : List D} (k : Kt X pt F R σ ρ Q' Q) (f : Fr pt F R F1 H1) (hp : H1 p = none) (r : RvL X.K F1 xs ds) (z : ds.length ≤ sizeLine) (q : Q' (.fr (.list ds))) : Q (.ref p) (upd H1 p (.lst xs)) := by
  obtain ⟨h1, h2, h3⟩ := f.fresh hp
  exact k _ _ _ (.fr (.list ds)) (f.new hp) ⟨p, rfl, h1, h2, h3, xs, upd_same, r, z⟩ q
theorem Kt.dk {p : Addr} {l : List (Key × V)} {l2 : List (Ky × D)} (k : Kt X pt F R σ ρ Q' Q) (f : Fr pt F R F1 H1) (hp : H1 p = none) (r : RvK X.K F1 l l2) (q : Q' (.fr (.dk l2))) : Q (.ref p) (upd H1 p (.dK l)) := by
  obtain ⟨h1, h2, h3⟩ := f.fresh hp
  exact k _ _ _ (.fr (.dk l2)) (f.new hp) ⟨p, rfl, h1, h2, h3, l, upd_same, r⟩ q
theorem Kt.dt {p : Addr} {l : List (List Key × V)} {l2 : List (List Ky × D)} (k : Kt X pt F R σ ρ Q' Q) (f : Fr pt F R F1 H1) (hp : H1 p = none) (r : RvT X.K F1 l l2) (q : Q' (.fr (.dt l2))) : Q (.ref p) (upd H1 p (.dT l)) := by
  obtain ⟨h1, h2, h3⟩ := f.fresh hp
  exact k _ _ _ (.fr (.dt l2)) (f.new hp) ⟨p, rfl, h1, h2, h3, l, upd_same, r⟩ q
end
/-- an operation on one value, on two -/
def Op1 (X : Cx) (r : V → Hp → VK → Prop) (m : D → M Rr) : Prop := ∀ pt F R F1 H1 σ ρ x a Q Q', Fr pt F R F1 H1 → TopR X.K F1 (hid H1 pt) x a → m a Q' → Kt X pt F R σ ρ Q' Q → r x H1 Q
def Op2 (X : Cx) (r : R2) (m : D → D → M Rr) : Prop := ∀ pt F R F1 H1 σ ρ x y a b Q Q', Fr pt F R F1 H1 → TopR X.K F1 (hid H1 pt) x a → TopR X.K F1 (hid H1 pt) y b → m a b Q' → Kt X pt F R σ ρ Q' Q → r x y H1 Q
section
variable {X : Cx} {a b : Expr} {pa pb : EX} {pos : Pos}
/-- an expression is evaluated and read -/
theorem lft_rd {p : EX} {σ : Sg} {H : Hp} {Q : VK} {B : Bs} {F : Hp} {ρ : Rho} {Q' : D → Prop} (rp : Rp X.K B F σ H ρ) (h : rdv p ρ Q')
    (k : ∀ v H1 F1 d, Fr B.pt F (hid H B.pt) F1 H1 → TopR X.K F1 (hid H1 B.pt) v d → Q' d → Q v H1) : lft X p σ H Q := by
  refine ⟨B, F, ρ, _, rp, h, fun v H2 F2 r f q q2 => ?_⟩
  obtain ⟨d, e, q3⟩ := opt_ok (f := ret) q2
  exact k v H2 F2 d f (q.look rp f e) q3
theorem lft_fz {p : EX} {σ : Sg} {H : Hp} {Q : VK} {B : Bs} {F : Hp} {ρ : Rho} {Q' : D → Prop} (rp : Rp X.K B F σ H ρ) (h : fzv p ρ Q')
    (k : ∀ v H1 F1 d, Fr B.pt F (hid H B.pt) F1 H1 → Rv X.K F1 v d → Q' d → Q v H1) : lft X p σ H Q := by
  refine ⟨B, F, ρ, _, rp, h, fun v H2 F2 r f q q2 => ?_⟩
  obtain ⟨d, e, q3⟩ := opt_ok (f := ret) q2
  obtain ⟨F3, g, rv, _⟩ := q.fzn f e
  exact k v H2 F3 d g rv q3
theorem core1 {r : V → Hp → VK → Prop} {m : D → M Rr} (h : Op1 X r m) {σ : Sg} {H : Hp} {Q : VK} (q : lft X (u1 m pa) σ H Q) : lft X pa σ H fun x H1 => r x H1 Q := by
  obtain ⟨B, F, ρ, Q', rp, hp, k⟩ := q
  exact lft_rd rp hp fun v H1 F1 d f t q => h _ _ _ _ _ σ ρ _ _ _ _ f t q k
theorem core2 {r : R2} {m : D → D → M Rr} (h : Op2 X r m) {σ : Sg} {H : Hp} {Q : VK} (q : lft X (u2 m pa pb) σ H Q) : tOp r (lft X pa) (lft X pb) σ H Q := by
  obtain ⟨B, F, ρ, Q', rp, hp, k⟩ := q
  refine lft_rd rp hp fun v H1 F1 d f t q => ?_
  refine lft_rd (rp.fra f) q fun v2 H2 F2 d2 f2 t2 q2 => ?_
  exact h _ _ _ _ _ σ ρ _ _ _ _ _ _ (f.trans f2) (t.mono f2.ff f2.rhid) t2 q2 k
theorem px_op {op : Operator} {r : R2} {m : D → D → M Rr} (ho : OpR X (binaryOp op) r) (h : Op2 X r m) (ha : PX X a pa) (hb : PX X b pb) : PX X (.BinOp a op b pos) (u2 m pa pb) :=
  PE.weak (pe_op ho ha hb) fun _ _ _ => core2 h
theorem px_cmp {op : CmpOp} {r : R2} {m : D → D → M Rr} (ho : OpR X (compareOp op) r) (h : Op2 X r m) (ha : PX X a pa) (hb : PX X b pb) (hm : behindInMarks op b = false) : PX X (.Compare a [op] [b] pos) (u2 m pa pb) :=
  PE.weak (pe_cmpR ho ha hb hm) fun _ _ _ => core2 h
theorem px_ix {r : R2} {m : D → D → M Rr} (ho : IxR X r) (h : Op2 X r m) (ha : PX X a pa) (hb : PX X b pb) (hs : PlainIx b) : PX X (.Subscript a b pos) (u2 m pa pb) :=
  PE.weak (pe_ix ho ha hb hs) fun _ _ _ => core2 h

/-! ### names, constants -/
theorem px_var (i : Nat) {x : Str} (hN : X.N[i]? = some x := by rfl) (hv : Vis X.env.scope x := by first | exact Or.inl rfl | exact Or.inr (Or.inl rfl) | exact Or.inr (Or.inr rfl)) (hd : (x == ("__debug__" : Str)) = false := by decide)
    (hcd : (x == ("__classdict__" : Str)) = false := by decide) : PX X (.Name x pos) (var i) := by
  refine PE.weak (pv i hN hv hd hcd) fun σ H Q q => ?_
  obtain ⟨B, F, ρ, Q', rp, hp, k⟩ := q
  unfold var at hp
  cases e : ρ[i]? with
  | none => rw [e] at hp; exact hp.elim
  | some s =>
    rw [e] at hp
    have q := rp.sl i s e
    cases s with
    | un => exact hp.elim
    | rd d =>
      obtain ⟨v, e1, t⟩ := q
      refine ⟨v, e1, ?_⟩
      by_cases hb : box d = true
      · have hp' : Q' (.al i) := by
          have : (if box d = true then ret (.al i) else ret (.val d) : M Rr) Q' := hp
          rw [if_pos hb] at this; exact this
        exact k v H F (.al i) rp.fr.again ⟨e1, .inl ⟨d, e⟩⟩ hp'
      · have hp' : Q' (.val d) := by
          have : (if box d = true then ret (.al i) else ret (.val d) : M Rr) Q' := hp
          rw [if_neg hb] at this; exact this
        exact k v H F (.val d) rp.fr.again (t.rv (by simpa using hb)) hp'
    | fz d => obtain ⟨v, e1, t⟩ := q; exact ⟨v, e1, k v H F (.val d) rp.fr.again t hp⟩
    | own d => obtain ⟨p, e1, t⟩ := q; exact ⟨_, e1, k _ H F (.al i) rp.fr.again ⟨e1, .inr ⟨d, e⟩⟩ hp⟩
    | pot => obtain ⟨p, e1, t⟩ := q; exact ⟨_, e1, k _ H F .pot rp.fr.again ⟨p, rfl, t⟩ hp⟩
theorem px_c {e : Expr} {v : V} {d : D} (h : PE X e (tC v)) (r : ∀ F, Rv X.K F v d) : PX X e (cst d) := by
  refine PE.weak h fun σ H Q q => ?_
  obtain ⟨B, F, ρ, Q', rp, hp, k⟩ := q
  exact k v H F (.val d) rp.fr.again (r F) hp
theorem px_int {i j pos} : PX X (.Constant (.int i) j pos) (cst (.int i)) := px_c pe_int fun _ => .int i
theorem px_bl {i j pos} : PX X (.Constant (.bool i) j pos) (cst (.bool i)) := px_c pe_bl fun _ => .bl i
theorem px_non {j pos} : PX X (.Constant .none j pos) (cst .none) := px_c pe_non fun _ => .non
theorem px_str {x j pos} : PX X (.Constant (.str x) j pos) (cst (.str x)) := px_c pe_str fun _ => .str x
theorem px_gint {x : Str} {i : Int} (hm : ∃ t, X.mg x = some (.int i t)) (hg : Gl X x := by (unfold L2.Gl; kernel_rfl)) (hd : (x == ("__debug__" : Str)) = false := by decide) : PX X (.Name x pos) (cst (.int i)) := by
  obtain ⟨t, hm⟩ := hm
  exact px_c (pe_glob (v := .int i) hg hm ⟨t, rfl⟩ hd) fun _ => .int i
theorem px_gstr {x y : Str} (hm : ∃ t, X.mg x = some (.str y t)) (hg : Gl X x := by (unfold L2.Gl; kernel_rfl)) (hd : (x == ("__debug__" : Str)) = false := by decide) : PX X (.Name x pos) (cst (.str y)) := by
  obtain ⟨t, hm⟩ := hm
  exact px_c (pe_glob (v := .str y) hg hm ⟨t, rfl⟩ hd) fun _ => .str y

/-! ### tests -/
def lfT (X : Cx) (p : Rho → M Bool) : TT := fun σ H Q => ∃ B F ρ Q', Rp X.K B F σ H ρ ∧ p ρ Q' ∧ ∀ b H2 F2, Fr B.pt F (hid H B.pt) F2 H2 → Q' b → Q b H2
def PTt (X : Cx) (e : Expr) (p : Rho → M Bool) : Prop := PT X e (lfT X p)
def PWt (X : Cx) (e : Expr) (p : Rho → M Bool) : Prop := PW X e (lfT X p)
theorem lfT_of {p : Rho → M Bool} {σ : Sg} {H : Hp} {Q : Bool → Hp → Prop} {B : Bs} {F : Hp} {ρ : Rho} {Q' : Bool → Prop} (rp : Rp X.K B F σ H ρ) (h : p ρ Q')
    (k : ∀ b H1 F1, Fr B.pt F (hid H B.pt) F1 H1 → Q' b → Q b H1) : lfT X p σ H Q := ⟨B, F, ρ, Q', rp, h, k⟩
theorem pt_val' {e : Expr} {p : EX} (h : PX X e p) (he : ∀ whole, isTrue e X.env whole = (do let v ← whole; standAt e.pos; holding [v] (truthy v)) := by intro _; rfl) : PTt X e (tst p) := by
  refine PT.weak (pt_val h he) fun σ H Q q => ?_
  obtain ⟨B, F, ρ, Q', rp, hp, k⟩ := q
  refine lft_rd rp hp fun v H1 F1 d f t q => ?_
  cases d with
  | bool b => cases t with | bl => exact ⟨b, rfl, k b H1 F1 f q⟩
  | _ => exact q.elim
theorem pt_cmp' {op : CmpOp} {r : R2} {m : D → D → M Rr} (ho : OpR X (compareOp op) r) (h : Op2 X r m) (ha : PX X a pa) (hb : PX X b pb) (hm : behindInMarks op b = false) : PTt X (.Compare a [op] [b] pos) (tst (u2 m pa pb)) := by
  refine PT.weak (pt_cmpR ho ha hb hm) fun σ H Q q => ?_
  obtain ⟨B, F, ρ, Q', rp, hp, k⟩ := q
  refine core2 (pa := pa) (pb := pb) h (lft_rd rp hp fun v H1 F1 d f t q => ?_)
  cases d with
  | bool b => cases t with | bl => exact ⟨b, rfl, k b H1 F1 f q⟩
  | _ => exact q.elim
variable {rest : List Expr} {ta tb : Rho → M Bool}
theorem pw_and1' (ha : PTt X a ta) : PWt X (.BoolOp .And [a] pos) ta := pw_and1 ha
theorem pw_or1' (ha : PTt X a ta) : PWt X (.BoolOp .Or [a] pos) ta := pw_or1 ha
theorem PW.weak {X : Cx} {e : Expr} {t t' : TT} (h : PW X e t) (w : ∀ σ H Q, t' σ H Q → t σ H Q) : PW X e t' := ⟨fun wh pins s σ H Q I q => h.run wh pins s σ H Q I (w _ _ _ q)⟩
theorem pw_and' (ha : PTt X a ta) (hb : PWt X (.BoolOp .And (b :: rest) pos) tb) : PWt X (.BoolOp .And (a :: b :: rest) pos) (tand ta tb) := by
  refine PW.weak (pw_and ha hb) fun σ H Q q => ?_
  obtain ⟨B, F, ρ, Q', rp, hp, k⟩ := q
  refine lfT_of rp hp fun c H1 F1 f q => ?_
  cases c with
  | true => exact lfT_of (rp.fra f) q fun c2 H2 F2 f2 q2 => k c2 H2 F2 (f.trans f2) q2
  | false => exact k false H1 F1 f q
theorem pw_or' (ha : PTt X a ta) (hb : PWt X (.BoolOp .Or (b :: rest) pos) tb) : PWt X (.BoolOp .Or (a :: b :: rest) pos) (tor ta tb) := by
  refine PW.weak (pw_or ha hb) fun σ H Q q => ?_
  obtain ⟨B, F, ρ, Q', rp, hp, k⟩ := q
  refine lfT_of rp hp fun c H1 F1 f q => ?_
  cases c with
  | true => exact k true H1 F1 f q
  | false => exact lfT_of (rp.fra f) q fun c2 H2 F2 f2 q2 => k c2 H2 F2 (f.trans f2) q2
theorem PWt.t (h : PWt X a ta) : PTt X a ta := PW.pt h
theorem pt_not' (ha : PTt X a ta) : PTt X (.UnaryOp .Not a pos) (tnot ta) := by
  refine PT.weak (pt_not ha) fun σ H Q q => ?_
  obtain ⟨B, F, ρ, Q', rp, hp, k⟩ := q
  exact lfT_of rp hp fun c H1 F1 f q => k (!c) H1 F1 f q
/-- and, or, not as values -/
def pandE (a b : EX) : EX := fun ρ => bnd (rdv a ρ) fun x => match x with
  | .bool c => if c = true then b ρ else ret (.val (.bool false))
  | _ => fail
def porE (a b : EX) : EX := fun ρ => bnd (rdv a ρ) fun x => match x with
  | .bool c => if c = true then ret (.val (.bool true)) else b ρ
  | _ => fail
def pnotE (a : EX) : EX := u1 (vl fun x => match x with | .bool c => some (.bool (!c)) | _ => none) a
theorem RrR.fra {K : PySem.W.Frag} {pt : Option Addr} {F R F1 H1 F2 H2 : Hp} {σ : Sg} {ρ : Rho} {v : V} {r : Rr} (f : Fr pt F R F1 H1) (q : RrR K pt (hid H1 pt) F2 H2 σ ρ v r) : RrR K pt R F2 H2 σ ρ v r := by
  cases r with
  | fr d =>
    obtain ⟨p, e, h1, h2⟩ := q
    refine ⟨p, e, ?_, h2⟩
    cases c : R p with
    | none => rfl
    | some o => rw [f.rhid p o c] at h1; cases h1
  | _ => exact q
theorem lft_on {p : EX} {σ : Sg} {H1 : Hp} {Q : VK} {B : Bs} {F F1 R : Hp} {ρ : Rho} {Q' : Rr → Prop} (rp : Rp X.K B F1 σ H1 ρ) (f : Fr B.pt F R F1 H1) (h : p ρ Q') (k : Kt X B.pt F R σ ρ Q' Q) : lft X p σ H1 Q :=
  ⟨B, F1, ρ, Q', rp, h, fun v H2 F2 r f2 q q2 => k v H2 F2 r (f.trans f2) (q.fra f) q2⟩
theorem px_one {op} {p : EX} (h : PX X a p) : PX X (.BoolOp op [a] pos) p := pe_one h
theorem px_and (ha : PX X a pa) (hb : PX X (.BoolOp .And (b :: rest) pos) pb) : PX X (.BoolOp .And (a :: b :: rest) pos) (pandE pa pb) := by
  refine PE.weak (pe_and ha hb) fun σ H Q q => ?_
  obtain ⟨B, F, ρ, Q', rp, hp, k⟩ := q
  refine lft_rd rp hp fun v H1 F1 d f t q => ?_
  cases d with
  | bool c =>
    cases t with
    | bl =>
      refine ⟨c, rfl, ?_⟩
      cases c with
      | true => exact lft_on (rp.fra f) f q k
      | false => exact Kt.val k f (.bl false) q
  | _ => exact q.elim
theorem px_or (ha : PX X a pa) (hb : PX X (.BoolOp .Or (b :: rest) pos) pb) : PX X (.BoolOp .Or (a :: b :: rest) pos) (porE pa pb) := by
  refine PE.weak (pe_or ha hb) fun σ H Q q => ?_
  obtain ⟨B, F, ρ, Q', rp, hp, k⟩ := q
  refine lft_rd rp hp fun v H1 F1 d f t q => ?_
  cases d with
  | bool c =>
    cases t with
    | bl =>
      refine ⟨c, rfl, ?_⟩
      cases c with
      | false => exact lft_on (rp.fra f) f q k
      | true => exact Kt.val k f (.bl true) q
  | _ => exact q.elim
theorem px_not (ha : PX X a pa) : PX X (.UnaryOp .Not a pos) (pnotE pa) := by
  refine PE.weak (pe_not ha) fun σ H Q q => core1 (X := X) (r := fun x H1 Q => ∃ c, x = .bl c ∧ Q (.bl (!c)) H1) (pa := pa) ?_ q
  intro pt F R F1 H1 σ ρ x d Q Q' f t q k
  cases d with
  | bool c => cases t with | bl => exact ⟨c, rfl, Kt.val k f (.bl _) q⟩
  | _ => exact q.elim
theorem px_ife {c : Expr} {tc : Rho → M Bool} (hc : PTt X c tc) (ha : PX X a pa) (hb : PX X b pb) : PX X (.IfExp c a b pos) (ife tc pa pb) := by
  refine PE.weak (pe_ifExp hc ha hb) fun σ H Q q => ?_
  obtain ⟨B, F, ρ, Q', rp, hp, k⟩ := q
  refine lfT_of rp hp fun c H1 F1 f q => ?_
  cases c with
  | true => exact lft_on (rp.fra f) f q k
  | false => exact lft_on (rp.fra f) f q k
/-- low <= x <= high, whole numbers -/
def chn (f g : Int → Int → Bool) (a b c : EX) : EX := fun ρ => bnd (rdv a ρ) fun x => bnd (rdv b ρ) fun y => match x, y with
  | .int i, .int j => if f i j = true then bnd (rdv c ρ) fun z => match z with
    | .int k => ret (.val (.bool (g j k)))
    | _ => fail
    else ret (.val (.bool false))
  | _, _ => fail
theorem px_chain {c : Expr} {pc : EX} {op op' : CmpOp} {f g : Int → Int → Bool} (ho : OpR X (compareOp op) (rI0 fun i j => .bl (f i j))) (ho' : OpR X (compareOp op') (rI0 fun i j => .bl (g i j))) (ha : PX X a pa) (hb : PX X b pb) (hc : PX X c pc)
    (hm : lastMarks [op, op'] [b, c] = false := by with_unfolding_all rfl) : PX X (.Compare a [op, op'] [b, c] pos) (chn f g pa pb pc) := by
  refine PE.weak (pe_chain ho ho' ha hb hc hm) fun σ H Q q => ?_
  obtain ⟨B, F, ρ, Q', rp, hp, k⟩ := q
  refine lft_rd rp hp fun v H1 F1 d f1 t q => ?_
  refine lft_rd (rp.fra f1) q fun v2 H2 F2 d2 f2 t2 q2 => ?_
  cases d with
  | int i =>
    cases d2 with
    | int j =>
      cases t with
      | int =>
        cases t2 with
        | int =>
          refine ⟨i, j, rfl, rfl, f i j, rfl, ?_⟩
          have q3 : (if f i j = true then bnd (rdv pc ρ) (fun z => match z with
            | .int k => ret (.val (.bool (g j k)))
            | _ => fail) else ret (.val (.bool false)) : M Rr) Q' := q2
          by_cases e : f i j = true
          · rw [if_pos e] at q3 ⊢
            refine lft_rd (rp.fra (f1.trans f2)) q3 fun v3 H3 F3 d3 f3 t3 q3 => ?_
            cases d3 with
            | int n => cases t3 with | int => exact ⟨j, n, rfl, rfl, Kt.val k ((f1.trans f2).trans f3) (.bl _) q3⟩
            | _ => exact q3.elim
          · rw [if_neg e] at q3 ⊢
            exact Kt.val k (f1.trans f2) (.bl _) q3
    | _ => exact q2.elim
  | _ => cases d2 <;> exact q2.elim
end
end PV

set_option Elab.async false
set_option linter.all false
set_option maxRecDepth 100000
set_option maxHeartbeats 1000000
/-! PvF: the operations of values, one by one. -/
namespace PV
open PySem PySem.Spec L2

section
variable {K : PySem.W.Frag} {F H G : Hp}
theorem lay_cons {d : D} {ds : List D} (h : PyData.canLayAll0 (D.ps (d :: ds)) = true) : d.p.canLay0 = true ∧ PyData.canLayAll0 (D.ps ds) = true := by
  rw [D.ps, PyData.canLayAll0, Bool.and_eq_true] at h
  exact h
mutual
theorem Rv.dp (e : Same F H) : ∀ {v : V} {d : D}, Rv K F v d → d.p.canLay0 = true → Dp K H v d.p
  | _, _, .non, _ => .non
  | _, _, .bl b, _ => .bl b
  | _, _, .int i, _ => .int i
  | _, _, .str x, _ => .str x
  | _, _, .tup h r z, c => .tup (SqT.of (e _ _ h)) (RvL.dp e r (by rw [D.p, PyData.canLay0] at c; exact c))
  | _, _, .lst h r z, c => .lst (.inl (Same.rd e h)) (RvL.dp e r (by rw [D.p, PyData.canLay0] at c; exact c))
  | _, _, .dik h r, c => by rw [D.p, PyData.canLay0] at c; cases c
  | _, _, .dit h r, c => by rw [D.p, PyData.canLay0] at c; cases c
theorem RvL.dp (e : Same F H) : ∀ {v : List V} {d : List D}, RvL K F v d → PyData.canLayAll0 (D.ps d) = true → DpAll K H v (D.ps d)
  | _, _, .nil, _ => .nil
  | _, _, .cons h r, c => by
    obtain ⟨c1, c2⟩ := lay_cons c
    rw [D.ps]
    exact .cons (Rv.dp e h c1) (RvL.dp e r c2)
end
theorem TopR.dp {v : V} {d : D} (t : TopR K F G v d) (e : Same F H) (g : Same G H) (c : d.p.canLay0 = true) : Dp K H v d.p := by
  cases d with
  | list ds =>
    obtain ⟨a, xs, rfl, h1, h2, _⟩ := t
    rw [D.p] at c ⊢
    exact .lst (Same.sq g h1) (h2.dp e (by rw [PyData.canLay0] at c; exact c))
  | dk => rw [D.p, PyData.canLay0] at c; cases c
  | dt => rw [D.p, PyData.canLay0] at c; cases c
  | _ => exact Rv.dp e t c
theorem shp_lay {d : D} (h : shp d = true) : d.p.canLay0 = true := SeqAt.canLay_of_shaped h
end
theorem Fr.two {pt : Option Addr} {F R F1 H1 : Hp} (f : Fr pt F R F1 H1) : Same F1 H1 ∧ Same (hid H1 pt) H1 := ⟨f.fsame, hid_same⟩

section
variable {X : Cx}
/-! ### whole numbers -/
theorem o_i {r : R2} {f : Int → Int → Int} (e : r = rI0 fun i j => .int (f i j)) : Op2 X r (vl2 (i2 f)) := by
  subst e
  intro pt F R F1 H1 σ ρ x y a b Q Q' f1 t u q k
  cases a with
  | int i =>
    cases b with
    | int j => cases t with | int => cases u with | int => exact ⟨i, j, rfl, rfl, Kt.val k f1 (.int _) q⟩
    | _ => exact q.elim
  | _ => exact q.elim
theorem o_add : Op2 X (rI0 fun i j => .int (i + j)) (vl2 addD) := o_i rfl
theorem o_sub : Op2 X (rI0 fun i j => .int (i - j)) (vl2 subD) := o_i rfl
theorem o_mul : Op2 X (rI CMul fun i j => .int (i * j)) (vl2 mulD) := by
  intro pt F R F1 H1 σ ρ x y a b Q Q' f1 t u q k
  cases a with
  | int i =>
    cases b with
    | int j =>
      cases t with
      | int =>
        cases u with
        | int =>
          obtain ⟨c, e, q⟩ := opt_ok q
          have e' : (if sml i = true ∨ sml j = true then some (.int (i * j)) else none : Option D) = some c := e
          by_cases h : sml i = true ∨ sml j = true
          · rw [if_pos h] at e'
            cases e'
            refine ⟨i, j, rfl, rfl, ?_, Kt.val k f1 (.int _) q⟩
            rcases h with h | h
            · have := of_decide_eq_true h; exact .inl ⟨by omega, by omega⟩
            · have := of_decide_eq_true h; exact .inr ⟨by omega, by omega⟩
          · rw [if_neg h] at e'; cases e'
    | _ => exact q.elim
  | _ => exact q.elim
theorem o_fdiv : Op2 X (rI CDiv fun i j => .int (i / j)) (vl2 fdivD) := by
  intro pt F R F1 H1 σ ρ x y a b Q Q' f1 t u q k
  cases a with
  | int i =>
    cases b with
    | int j =>
      cases t with
      | int =>
        cases u with
        | int =>
          obtain ⟨c, e, q⟩ := opt_ok q
          have e' : (if 0 < j ∧ j.natAbs < 1073741824 then some (.int (i / j)) else none : Option D) = some c := e
          by_cases h : 0 < j ∧ j.natAbs < 1073741824
          · rw [if_pos h] at e'
            cases e'
            exact ⟨i, j, rfl, rfl, ⟨h.1, by have := h.2; omega⟩, Kt.val k f1 (.int _) q⟩
          · rw [if_neg h] at e'; cases e'
    | _ => exact q.elim
  | _ => exact q.elim
theorem o_mod : Op2 X (rI (fun _ j => 0 < j) fun i j => .int (i % j)) (vl2 modD) := by
  intro pt F R F1 H1 σ ρ x y a b Q Q' f1 t u q k
  cases a with
  | int i =>
    cases b with
    | int j =>
      cases t with
      | int =>
        cases u with
        | int =>
          obtain ⟨c, e, q⟩ := opt_ok q
          have e' : (if 0 < j then some (.int (i % j)) else none : Option D) = some c := e
          by_cases h : 0 < j
          · rw [if_pos h] at e'
            cases e'
            exact ⟨i, j, rfl, rfl, h, Kt.val k f1 (.int _) q⟩
          · rw [if_neg h] at e'; cases e'
    | _ => exact q.elim
  | _ => exact q.elim
theorem o_le : Op2 X (rI0 fun i j => .bl (decide (i ≤ j))) (vl2 leD) := by
  intro pt F R F1 H1 σ ρ x y a b Q Q' f1 t u q k
  cases a with
  | int i =>
    cases b with
    | int j => cases t with | int => cases u with | int => exact ⟨i, j, rfl, rfl, Kt.val k f1 (.bl _) q⟩
    | _ => exact q.elim
  | _ => exact q.elim
theorem o_gt : Op2 X (rI0 fun i j => .bl (decide (j < i))) (vl2 gtD) := by
  intro pt F R F1 H1 σ ρ x y a b Q Q' f1 t u q k
  cases a with
  | int i =>
    cases b with
    | int j => cases t with | int => cases u with | int => exact ⟨i, j, rfl, rfl, Kt.val k f1 (.bl _) q⟩
    | _ => exact q.elim
  | _ => exact q.elim
theorem o_ge : Op2 X (rI0 fun i j => .bl (decide (j ≤ i))) (vl2 geD) := by
  intro pt F R F1 H1 σ ρ x y a b Q Q' f1 t u q k
  cases a with
  | int i =>
    cases b with
    | int j => cases t with | int => cases u with | int => exact ⟨i, j, rfl, rfl, Kt.val k f1 (.bl _) q⟩
    | _ => exact q.elim
  | _ => exact q.elim

/-! ### ==, !=, <, in, is None -/
theorem o_eq : Op2 X (rEqD X.K) (vl2 eqD) := by
  intro pt F R F1 H1 σ ρ x y a b Q Q' f1 t u q k
  obtain ⟨c, e, q⟩ := opt_ok q
  unfold eqD at e
  by_cases h : shp a = true ∧ shp b = true
  · rw [if_pos h] at e
    cases e
    obtain ⟨s1, s2⟩ := f1.two
    exact ⟨_, _, t.dp s1 s2 (shp_lay h.1), u.dp s1 s2 (shp_lay h.2), h.1, h.2, Kt.val k f1 (.bl _) q⟩
  · rw [if_neg h] at e; cases e
theorem o_ne : Op2 X (rNeD X.K) (vl2 neD) := by
  intro pt F R F1 H1 σ ρ x y a b Q Q' f1 t u q k
  obtain ⟨c, e, q⟩ := opt_ok q
  unfold neD at e
  by_cases h : shp a = true ∧ shp b = true
  · rw [if_pos h] at e
    cases e
    obtain ⟨s1, s2⟩ := f1.two
    exact ⟨_, _, t.dp s1 s2 (shp_lay h.1), u.dp s1 s2 (shp_lay h.2), h.1, h.2, Kt.val k f1 (.bl _) q⟩
  · rw [if_neg h] at e; cases e
def rLtD (K : PySem.W.Frag) : R2 := fun x y H Q => ∃ d e, Dp K H x d ∧ Dp K H y e ∧ SeqAt.shaped d = true ∧ SeqAt.shaped e = true ∧ PySem.W.alike d e = true ∧ d ≠ .none ∧ Q (.bl (PySem.W.dataLt d e)) H
theorem op_ltD (hu : X.A.units + 64 < cLine) : OpR X (compareOp .Lt) (rLtD X.K) := by
  intro pins s σ H x y v u Q I rx ry h
  obtain ⟨d, e, hd, he, sd, se, al, hn, q⟩ := h
  obtain ⟨as, r1⟩ := Dp.reads I d x v hd rx
  obtain ⟨bs, r2⟩ := Dp.reads I e y u he ry
  exact PySem.W.lt_data r1 r2 al hn (SeqAt.room_of_shaped sd hu) ⟨.bl _, H, I, rfl, q⟩
theorem op_lt2 (hu : X.A.units + 64 < cLine) : OpR X (compareOp .Lt) (fun x y H Q => rI0 (fun i j => .bl (decide (i < j))) x y H Q ∨ rLtD X.K x y H Q) := op_lt.or (op_ltD hu)
theorem o_lt : Op2 X (fun x y H Q => rI0 (fun i j => .bl (decide (i < j))) x y H Q ∨ rLtD X.K x y H Q) (vl2 ltD) := by
  intro pt F R F1 H1 σ ρ x y a b Q Q' f1 t u q k
  obtain ⟨c, e, q⟩ := opt_ok q
  have big : ∀ e' : (if okLt a b = true then some (.bool (dlt a b)) else none : Option D) = some c, rLtD X.K x y H1 Q := fun e' => by
    by_cases h : okLt a b = true
    · rw [if_pos h] at e'
      cases e'
      obtain ⟨s1, s2⟩ := f1.two
      unfold okLt at h
      simp only [Bool.and_eq_true] at h
      obtain ⟨⟨⟨h1, h2⟩, h3⟩, h4⟩ := h
      refine ⟨_, _, t.dp s1 s2 (shp_lay h1), u.dp s1 s2 (shp_lay h2), h1, h2, h3, fun z => ?_, Kt.val k f1 (.bl _) q⟩
      cases a with
      | none => cases h4
      | _ => rw [D.p] at z; cases z
    · rw [if_neg h] at e'; cases e'
  cases a with
  | int i =>
    cases b with
    | int j =>
      cases t with
      | int =>
        cases u with
        | int =>
          have e' : some (.bool (decide (i < j))) = some c := e
          cases e'
          exact .inl ⟨i, j, rfl, rfl, Kt.val k f1 (.bl _) q⟩
    | _ => exact .inr (big e)
  | _ => exact .inr (big e)
def rIsNon : R2 := fun x y H Q => y = .non ∧ Q (.bl (decide (x = .non))) H
def isD (a b : D) : Option D := match b with
  | .none => some (.bool (isNon a))
  | _ => none
def isnD (a b : D) : Option D := match b with
  | .none => some (.bool (!isNon a))
  | _ => none
theorem TopR.non {K : PySem.W.Frag} {F G : Hp} {x : V} {a : D} (t : TopR K F G x a) : decide (x = .non) = isNon a := by
  cases a with
  | none => cases t; rfl
  | bool b => cases t; rfl
  | int b => cases t; rfl
  | str b => cases t; rfl
  | list ds => obtain ⟨_, _, rfl, _⟩ := t; rfl
  | tuple ds => cases t; rfl
  | dk => obtain ⟨_, _, rfl, _⟩ := t; rfl
  | dt => obtain ⟨_, _, rfl, _⟩ := t; rfl
theorem o_is : Op2 X (fun x y H Q => y = .non ∧ Q (.bl (decide (x = .non))) H) (vl2 isD) := by
  intro pt F R F1 H1 σ ρ x y a b Q Q' f1 t u q k
  cases b with
  | none => cases u with | non => exact ⟨rfl, by rw [t.non]; exact Kt.val k f1 (.bl _) q⟩
  | _ => exact q.elim
theorem o_isn : Op2 X (fun x y H Q => y = .non ∧ Q (.bl (!decide (x = .non))) H) (vl2 isnD) := by
  intro pt F R F1 H1 σ ρ x y a b Q Q' f1 t u q k
  cases b with
  | none => cases u with | non => exact ⟨rfl, by rw [t.non]; exact Kt.val k f1 (.bl _) q⟩
  | _ => exact q.elim

/-! ### dicts: what they hold -/
theorem RvK.find {K : PySem.W.Frag} {F : Hp} (k : Key) : ∀ {l : List (Key × V)} {l2 : List (Ky × D)}, RvK K F l l2 → (∀ d, find l2 k = some d → ∃ v, valV l k = some v ∧ Rv K F v d) ∧ (find l2 k = none → valV l k = none)
  | _, _, .nil => ⟨fun _ h => by simp [PV.find] at h, fun _ => rfl⟩
  | _, _, .cons (k := k') (v := v) (d := d) (vs := vs) (ds := ds) h r => by
    by_cases e : k' = k
    · have e1 : PV.find ((k', d) :: ds) k = some d := by simp [PV.find, e]
      have e2 : valV ((k', v) :: vs) k = some v := by simp [valV, e]
      rw [e1, e2]
      exact ⟨fun d' h' => by cases h'; exact ⟨v, rfl, h⟩, fun h' => nomatch h'⟩
    · have e1 : PV.find ((k', d) :: ds) k = PV.find ds k := by simp [PV.find, e]
      have e2 : valV ((k', v) :: vs) k = valV vs k := by simp [valV, e]
      rw [e1, e2]
      exact RvK.find k r
theorem RvT.find {K : PySem.W.Frag} {F : Hp} (k : List Key) : ∀ {l : List (List Key × V)} {l2 : List (List Ky × D)}, RvT K F l l2 → (∀ d, find l2 k = some d → ∃ v, valV l k = some v ∧ Rv K F v d) ∧ (find l2 k = none → valV l k = none)
  | _, _, .nil => ⟨fun _ h => by simp [PV.find] at h, fun _ => rfl⟩
  | _, _, .cons (k := k') (v := v) (d := d) (vs := vs) (ds := ds) h r => by
    by_cases e : k' = k
    · have e1 : PV.find ((k', d) :: ds) k = some d := by simp [PV.find, e]
      have e2 : valV ((k', v) :: vs) k = some v := by simp [valV, e]
      rw [e1, e2]
      exact ⟨fun d' h' => by cases h'; exact ⟨v, rfl, h⟩, fun h' => nomatch h'⟩
    · have e1 : PV.find ((k', d) :: ds) k = PV.find ds k := by simp [PV.find, e]
      have e2 : valV ((k', v) :: vs) k = valV vs k := by simp [valV, e]
      rw [e1, e2]
      exact RvT.find k r
theorem ky_of {K : PySem.W.Frag} {F : Hp} {v : V} {d : D} {k : Ky} (h : Rv K F v d) (e : kyOf d = some k) : v = kV k := by
  cases h with
  | int i => cases e; rfl
  | str x => cases e; rfl
  | _ => cases e
theorem kys_of {K : PySem.W.Frag} {F : Hp} : ∀ {vs : List V} {ds : List D} {k : List Ky}, RvL K F vs ds → kysOf ds = some k → vs = k.map kV
  | _, _, _, .nil, e => by cases e; rfl
  | _, _, k, .cons (d := d) (ds := ds) h r, e => by
    unfold kysOf at e
    cases e1 : kyOf d with
    | none => rw [e1] at e; cases e
    | some k1 =>
      cases e2 : kysOf ds with
      | none => rw [e1, e2] at e; cases e
      | some k2 =>
        rw [e1, e2] at e
        cases e
        rw [ky_of h e1, kys_of r e2]
        rfl
/-- what a dict holds at a key: over the heap -/
theorem dget_of {K : PySem.W.Frag} {F G H : Hp} {c x : V} {d kd : D} {o : Option D} (t : TopR K F G c d) (u : TopR K F G x kd) (e : Same F H) (g : Same G H) (h : dget d kd = some o) :
    ∃ a r, c = .ref a ∧ DGet H a x r ∧ (∀ z, o = some z → ∃ v, r = some v ∧ Rv K F v z) ∧ (o = none → r = none) := by
  cases d with
  | dk l2 =>
    obtain ⟨a, l, rfl, h1, h2⟩ := t
    have h' : (kyOf kd).map (PV.find l2) = some o := h
    cases e1 : kyOf kd with
    | none => rw [e1] at h'; cases h'
    | some k =>
      rw [e1] at h'
      cases h'
      have ux : Rv K F x kd := u.rv (by cases kd <;> first | rfl | cases e1)
      have ex := ky_of ux e1
      obtain ⟨f1, f2⟩ := h2.find k
      exact ⟨a, valV l k, rfl, .inl ⟨l, k, Same.rd g h1, ex, rfl⟩, f1, f2⟩
  | dt l2 =>
    obtain ⟨a, l, rfl, h1, h2⟩ := t
    have h' : (tkOf kd).map (PV.find l2) = some o := h
    cases kd with
    | tuple ds =>
      have h'' : (kysOf ds).map (PV.find l2) = some o := h'
      cases e1 : kysOf ds with
      | none => rw [e1] at h''; cases h''
      | some k =>
        rw [e1] at h''
        cases h''
        cases (show Rv K F x (.tuple ds) from u) with
        | tup p r z =>
          have ex := kys_of r e1
          subst ex
          obtain ⟨f1, f2⟩ := h2.find k
          exact ⟨a, valV l k, rfl, .inr ⟨l, k, _, Same.rd g h1, rfl, e _ _ p, rfl⟩, f1, f2⟩
    | _ => cases h'
  | _ => cases h
/-! ### in -/
def rInT (K : PySem.W.Frag) (n : Bool) : R2 := fun x y H Q => ∃ d ds, Dp K H x d ∧ Dp K H y (.tuple ds) ∧ SeqAt.shaped d = true ∧ SeqAt.shaped (.tuple ds) = true ∧ Q (.bl (if n then !ds.any (fun z => PyData.eqv z d) else ds.any fun z => PyData.eqv z d)) H
theorem op_inT (hu : X.A.units + 65 < cLine) : OpR X (compareOp .In) (rInT X.K false) := by
  intro pins s σ H x y v u Q I rx ry h
  obtain ⟨d, ds, hd, he, sd, se, q⟩ := h
  obtain ⟨as, r1⟩ := Dp.reads I d x v hd rx
  obtain ⟨bs, r2⟩ := Dp.reads I (.tuple ds) y u he ry
  exact SeqAt.in_tuple_reads r2 r1 (SeqAt.canLay_of_shaped se) (SeqAt.canLay_of_shaped sd) (PyProof.Rows.room_in_shaped sd hu) ⟨.bl _, H, I, rfl, q⟩
theorem op_ninT (hu : X.A.units + 65 < cLine) : OpR X (compareOp .NotIn) (rInT X.K true) := by
  intro pins s σ H x y v u Q I rx ry h
  obtain ⟨d, ds, hd, he, sd, se, q⟩ := h
  obtain ⟨as, r1⟩ := Dp.reads I d x v hd rx
  obtain ⟨bs, r2⟩ := Dp.reads I (.tuple ds) y u he ry
  exact SeqAt.notIn_tuple_reads r2 r1 (SeqAt.canLay_of_shaped se) (SeqAt.canLay_of_shaped sd) (PyProof.Rows.room_in_shaped sd hu) ⟨.bl _, H, I, rfl, q⟩
def rInDc (n : Bool) : R2 := fun x y H Q => ∃ a o, y = .ref a ∧ DGet H a x o ∧ Q (.bl (if n then !o.isSome else o.isSome)) H
theorem op_inDc (hu : X.A.units + 1 < cLine) : OpR X (compareOp .In) (rInDc false) := by
  intro pins s σ H x y v u Q I rx ry h
  obtain ⟨a, o, rfl, g, q⟩ := h
  cases (show u = Value.ref a from ry)
  exact d_in hu I g rx fun s' I' => ⟨.bl _, H, I', rfl, q⟩
theorem op_ninDc (hu : X.A.units + 1 < cLine) : OpR X (compareOp .NotIn) (rInDc true) := by
  intro pins s σ H x y v u Q I rx ry h
  obtain ⟨a, o, rfl, g, q⟩ := h
  cases (show u = Value.ref a from ry)
  exact d_notIn hu I g rx fun s' I' => ⟨.bl _, H, I', rfl, q⟩
def rIn3 (K : PySem.W.Frag) : R2 := fun x y H Q => rInD K x y H Q ∨ (rInT K false x y H Q ∨ rInDc false x y H Q)
def rNin3 (K : PySem.W.Frag) : R2 := fun x y H Q => rNotInD K x y H Q ∨ (rInT K true x y H Q ∨ rInDc true x y H Q)
theorem op_in3 (hu : X.A.units + 65 < cLine) : OpR X (compareOp .In) (rIn3 X.K) := (op_inD hu).or ((op_inT hu).or (op_inDc (by omega)))
theorem op_nin3 (hu : X.A.units + 65 < cLine) : OpR X (compareOp .NotIn) (rNin3 X.K) := (op_notInD hu).or ((op_ninT hu).or (op_ninDc (by omega)))
theorem any_p (f : PyData → Bool) (ds : List D) : (D.ps ds).any f = ds.any fun z => f z.p := by rw [D.ps_map, List.any_map]; rfl
theorem o_in : Op2 X (rIn3 X.K) (vl2 inD) := by
  intro pt F R F1 H1 σ ρ x y a b Q Q' f1 t u q k
  obtain ⟨c, e, q⟩ := opt_ok q
  obtain ⟨s1, s2⟩ := f1.two
  have dic : (dget b a).map (fun o => D.bool o.isSome) = some c → rIn3 X.K x y H1 Q := fun e => by
    cases e1 : dget b a with
    | none => rw [e1] at e; cases e
    | some o =>
      rw [e1] at e
      cases e
      obtain ⟨p, r, rfl, g, g1, g2⟩ := dget_of u t s1 s2 e1
      refine .inr (.inr ⟨p, r, rfl, g, ?_⟩)
      have : r.isSome = o.isSome := by
        cases o with
        | none => rw [g2 rfl]; rfl
        | some z => obtain ⟨v, hv, _⟩ := g1 z rfl; rw [hv]; rfl
      show Q (.bl r.isSome) H1
      rw [this]
      exact Kt.val k f1 (.bl _) q
  cases b with
  | list ds =>
    have e' : (if shp a = true ∧ shp (.list ds) = true then some (.bool (ds.any fun z => eqB z a)) else none : Option D) = some c := e
    by_cases h : shp a = true ∧ shp (.list ds) = true
    · rw [if_pos h] at e'
      cases e'
      refine .inl ⟨_, D.ps ds, t.dp s1 s2 (shp_lay h.1), u.dp s1 s2 (shp_lay h.2), h.1, h.2, ?_⟩
      rw [any_p]
      exact Kt.val k f1 (.bl _) q
    · rw [if_neg h] at e'; cases e'
  | tuple ds =>
    have e' : (if shp a = true ∧ shp (.tuple ds) = true then some (.bool (ds.any fun z => eqB z a)) else none : Option D) = some c := e
    by_cases h : shp a = true ∧ shp (.tuple ds) = true
    · rw [if_pos h] at e'
      cases e'
      refine .inr (.inl ⟨_, D.ps ds, t.dp s1 s2 (shp_lay h.1), u.dp s1 s2 (shp_lay h.2), h.1, h.2, ?_⟩)
      rw [any_p]
      exact Kt.val k f1 (.bl _) q
    · rw [if_neg h] at e'; cases e'
  | dk l => exact dic e
  | dt l => exact dic e
  | _ => cases e
theorem o_nin : Op2 X (rNin3 X.K) (vl2 ninD) := by
  intro pt F R F1 H1 σ ρ x y a b Q Q' f1 t u q k
  obtain ⟨c, e, q⟩ := opt_ok q
  obtain ⟨s1, s2⟩ := f1.two
  have dic : (dget b a).map (fun o => D.bool (!o.isSome)) = some c → rNin3 X.K x y H1 Q := fun e => by
    cases e1 : dget b a with
    | none => rw [e1] at e; cases e
    | some o =>
      rw [e1] at e
      cases e
      obtain ⟨p, r, rfl, g, g1, g2⟩ := dget_of u t s1 s2 e1
      refine .inr (.inr ⟨p, r, rfl, g, ?_⟩)
      have : r.isSome = o.isSome := by
        cases o with
        | none => rw [g2 rfl]; rfl
        | some z => obtain ⟨v, hv, _⟩ := g1 z rfl; rw [hv]; rfl
      show Q (.bl (!r.isSome)) H1
      rw [this]
      exact Kt.val k f1 (.bl _) q
  cases b with
  | list ds =>
    have e' : (if shp a = true ∧ shp (.list ds) = true then some (.bool (!ds.any fun z => eqB z a)) else none : Option D) = some c := e
    by_cases h : shp a = true ∧ shp (.list ds) = true
    · rw [if_pos h] at e'
      cases e'
      refine .inl ⟨_, D.ps ds, t.dp s1 s2 (shp_lay h.1), u.dp s1 s2 (shp_lay h.2), h.1, h.2, ?_⟩
      rw [any_p]
      exact Kt.val k f1 (.bl _) q
    · rw [if_neg h] at e'; cases e'
  | tuple ds =>
    have e' : (if shp a = true ∧ shp (.tuple ds) = true then some (.bool (!ds.any fun z => eqB z a)) else none : Option D) = some c := e
    by_cases h : shp a = true ∧ shp (.tuple ds) = true
    · rw [if_pos h] at e'
      cases e'
      refine .inr (.inl ⟨_, D.ps ds, t.dp s1 s2 (shp_lay h.1), u.dp s1 s2 (shp_lay h.2), h.1, h.2, ?_⟩)
      rw [any_p]
      exact Kt.val k f1 (.bl _) q
    · rw [if_neg h] at e'; cases e'
  | dk l => exact dic e
  | dt l => exact dic e
  | _ => cases e
/-! ### a[i] -/
theorem ixn_eq (n : Nat) (i : Int) : ixn n i = ixN n i := rfl
theorem at_of {K : PySem.W.Frag} {F : Hp} {xs : List V} {ds : List D} {i : Int} {d : D} (r : RvL K F xs ds) (e : at_ ds i = some d) : ∃ v, atI xs i = some v ∧ Rv K F v d := by
  unfold at_ at e
  unfold atI
  rw [r.length, ← ixn_eq]
  cases e1 : ixn ds.length i with
  | none => rw [e1] at e; cases e
  | some j =>
    rw [e1] at e
    exact r.at' e
def rIxDc : R2 := fun x y H Q => ∃ a v, x = .ref a ∧ DGet H a y (some v) ∧ Q v H
theorem ix_dict (hu : X.A.units + 1 < cLine) : IxR X rIxDc := by
  intro value slice pins s σ H x y v u Q I rx ry h hs
  obtain ⟨a, z, rfl, g, q⟩ := h
  cases (show v = Value.ref a from rx)
  exact PyProof.Rows.tail_any (dict_typeIs I g) PySem.F.slot_dict_getitem.lookup (d_getItem hu I g ry fun w' s' I' rw' => ⟨z, H, I', rw', q⟩) hs
def rIx3 (K : PySem.W.Frag) : R2 := fun x y H Q => rIxL K x y H Q ∨ (rIxT K x y H Q ∨ rIxDc x y H Q)
theorem ix_3 (hu : X.A.units + 1 < cLine) : IxR X (rIx3 X.K) := ix_list.or (ix_tup.or (ix_dict hu))
theorem o_ix : Op2 X (rIx3 X.K) (vl2 ixD) := by
  intro pt F R F1 H1 σ ρ x y a b Q Q' f1 t u q k
  obtain ⟨c, e, q9⟩ := opt_ok q
  obtain ⟨s1, s2⟩ := f1.two
  have dic : (dget a b).bind id = some c → rIx3 X.K x y H1 Q := fun e => by
    cases e1 : dget a b with
    | none => rw [e1] at e; cases e
    | some o =>
      rw [e1] at e
      have e2 : o = some c := e
      obtain ⟨p, r, rfl, g, g1, g2⟩ := dget_of t u s1 s2 e1
      obtain ⟨v, hv, rv⟩ := g1 c e2
      subst hv
      exact .inr (.inr ⟨p, v, rfl, g, Kt.val k f1 rv q9⟩)
  cases a with
  | list ds =>
    cases b with
    | int i =>
      obtain ⟨p, xs, rfl, h1, h2, _⟩ := t
      cases u with
      | int =>
        obtain ⟨v, hv, rv⟩ := at_of h2 e
        exact .inl ⟨p, xs, i, v, rfl, rfl, Same.sq s2 h1, hv, Kt.val k f1 rv q9⟩
    | _ => cases e
  | tuple ds =>
    cases b with
    | int i =>
      cases (show Rv X.K F1 x (.tuple ds) from t) with
      | tup h1 h2 z =>
        cases u with
        | int =>
          obtain ⟨v, hv, rv⟩ := at_of h2 e
          exact .inr (.inl ⟨_, _, i, v, rfl, rfl, SqT.of (s1 _ _ h1), hv, Kt.val k f1 rv q9⟩)
    | _ => cases e
  | dk l => exact dic e
  | dt l => exact dic e
  | _ => cases e
end
end PV

set_option Elab.async false
set_option linter.all false
set_option maxRecDepth 100000
set_option maxHeartbeats 1000000
/-! PvG: displays, calls, statements, defs. -/
namespace PV
open PySem PySem.Spec L2

/-! ### rows of values that are kept -/
abbrev LX := Rho → M (List D)
def lnil : LX := fun _ => ret []
def lcons (e : EX) (l : LX) : LX := fun ρ => bnd (fzv e ρ) fun d => bnd (l ρ) fun ds => ret (d :: ds)
def lstar (e : EX) (l : LX) : LX := fun ρ => bnd (rdv e ρ) fun d => bnd (opt (seqOf d)) fun xs => bnd (l ρ) fun ds => ret (xs ++ ds)
def tupE (l : LX) : EX := fun ρ => bnd (l ρ) fun ds => if ds.length ≤ lim then ret (.val (.tuple ds)) else fail
def lstE (l : LX) : EX := fun ρ => bnd (l ρ) fun ds => if ds.length ≤ lim then ret (.fr (.list ds)) else fail
theorem lim_line {n : Nat} (h : n ≤ lim) : n ≤ sizeLine := by rw [sizeLine_eq]; exact h
def lfL (X : Cx) (p : LX) : TA := fun σ H Q => ∃ B F ρ Q', Rp X.K B F σ H ρ ∧ p ρ Q' ∧ ∀ vs H2 F2 ds, Fr B.pt F (hid H B.pt) F2 H2 → RvL X.K F2 vs ds → Q' ds → Q vs H2
def PL (X : Cx) (es : List Expr) (p : LX) : Prop := PA X es (lfL X p)
section
variable {X : Cx} {e : Expr} {es : List Expr} {p : EX} {l : LX} {pos : Pos}
theorem pl_nil : PL X [] lnil := PA.weak pa_nil fun σ H Q ⟨B, F, ρ, Q', rp, hp, k⟩ => k [] H F [] rp.fr.again .nil hp
theorem pl_cons (he : PX X e p) (hl : PL X es l) (hs : starEach (e :: es) X.env = (false, eval e X.env) :: starEach es X.env := by rfl) : PL X (e :: es) (lcons p l) := by
  refine PA.weak (pa_cons he hl hs) fun σ H Q ⟨B, F, ρ, Q', rp, hp, k⟩ => ?_
  refine lft_fz rp hp fun v H1 F1 d f r q => ?_
  exact ⟨B, F1, ρ, _, rp.fra f, q, fun vs H2 F2 ds f2 r2 q2 => k (v :: vs) H2 F2 (d :: ds) (f.trans f2) (.cons (r.mono f2.ff) r2) q2⟩
theorem seq_top {K : PySem.W.Frag} {F G H : Hp} {v : V} {d : D} {xs : List D} (t : TopR K F G v d) (e : Same F H) (g : Same G H) (h : seqOf d = some xs) :
    ∃ a vs, v = .ref a ∧ (SqT K H a vs ∨ SqL K H a vs) ∧ RvL K F vs xs ∧ xs.length ≤ sizeLine := by
  cases d with
  | list ds => have h' : ds = xs := Option.some.inj h; subst h'; obtain ⟨a, vs, rfl, h1, h2, z⟩ := t; exact ⟨a, vs, rfl, .inr (Same.sq g h1), h2, z⟩
  | tuple ds => have h' : ds = xs := Option.some.inj h; subst h'; cases (show Rv K F v (.tuple ds) from t) with | tup h1 h2 z => exact ⟨_, _, rfl, .inl (SqT.of (e _ _ h1)), h2, z⟩
  | _ => cases h
theorem pl_star {sp : Pos} (he : PX X e p) (hl : PL X es l) (hs : starEach (.Starred e sp :: es) X.env = (true, eval e X.env) :: starEach es X.env := by rfl) : PL X (.Starred e sp :: es) (lstar p l) := by
  refine PA.weak (StX.pa_star he hl hs) fun σ H Q ⟨B, F, ρ, Q', rp, hp, k⟩ => ?_
  refine lft_rd rp hp fun v H1 F1 d f t q => ?_
  obtain ⟨xs, e1, q⟩ := opt_ok q
  obtain ⟨s1, s2⟩ := f.two
  obtain ⟨a, vs, rfl, h1, h2, _⟩ := seq_top t s1 s2 e1
  exact ⟨a, vs, rfl, h1, B, F1, ρ, _, rp.fra f, q, fun ws H2 F2 ds f2 r2 q2 => k (vs ++ ws) H2 F2 (xs ++ ds) (f.trans f2) ((h2.mono f2.ff).append r2) q2⟩
theorem px_tup {x1} (hl : PL X es l) : PX X (.Tuple es x1 pos) (tupE l) := by
  refine PE.weak (pe_tup hl) fun σ H Q ⟨B, F, ρ, Q', rp, hp, k⟩ => ?_
  refine ⟨B, F, ρ, _, rp, hp, fun vs H2 F2 ds f r q => ?_⟩
  change (if ds.length ≤ lim then ret (.val (.tuple ds)) else fail : M Rr) Q' at q
  by_cases z : ds.length ≤ lim
  · rw [if_pos z] at q
    exact ⟨by rw [r.length]; exact lim_line z, fun a ha => Kt.tup k f ha r (lim_line z) q⟩
  · rw [if_neg z] at q; exact q.elim
theorem px_lst (hl : PL X es l) : PX X (.List es pos) (lstE l) := by
  refine PE.weak (pe_lst hl) fun σ H Q ⟨B, F, ρ, Q', rp, hp, k⟩ => ?_
  refine ⟨B, F, ρ, _, rp, hp, fun vs H2 F2 ds f r q => ?_⟩
  change (if ds.length ≤ lim then ret (.fr (.list ds)) else fail : M Rr) Q' at q
  by_cases z : ds.length ≤ lim
  · rw [if_pos z] at q
    exact ⟨by rw [r.length]; exact lim_line z, fun a ha => Kt.lst k f ha r (lim_line z) q⟩
  · rw [if_neg z] at q; exact q.elim
/-- {}, its keys ints and texts | tuples -/
def newK : EX := fun _ => ret (.fr (.dk []))
def newT : EX := fun _ => ret (.fr (.dt []))
theorem px_newK : PX X (.Dict [] [] pos) newK := PE.weak pe_dnewK fun σ H Q ⟨B, F, ρ, Q', rp, hp, k⟩ p hp' => Kt.dk k rp.fr.again hp' .nil hp
theorem px_newT : PX X (.Dict [] [] pos) newT := PE.weak pe_dnewT fun σ H Q ⟨B, F, ρ, Q', rp, hp, k⟩ p hp' => Kt.dt k rp.fr.again hp' .nil hp
end

/-! ### arguments and calls of defs -/
abbrev GX := Rho → M (List Ag)
def gnil : GX := fun _ => ret []
def gcons (e : EX) (l : GX) : GX := fun ρ => bnd (e ρ) fun r => bnd (opt (r.arg ρ)) fun d => bnd (l ρ) fun ds => ret (d :: ds)
def AgR (K : PySem.W.Frag) (F G : Hp) (pt : Option Addr) (v : V) : Ag → Prop
  | .d d => TopR K F G v d
  | .pot => ∃ a, v = .ref a ∧ pt = some a
theorem AgR.mono {K : PySem.W.Frag} {F F' G G' : Hp} {pt : Option Addr} {v : V} {g : Ag} (e : Same F F') (h : Same G G') (r : AgR K F G pt v g) : AgR K F' G' pt v g := by
  cases g with
  | d d => exact TopR.mono e h r
  | pot => exact r
abbrev AgL (K : PySem.W.Frag) (F G : Hp) (pt : Option Addr) : List V → List Ag → Prop := Paired (AgR K F G pt)
def lfG (X : Cx) (p : GX) : TA := fun σ H Q => ∃ B F ρ Q', Rp X.K B F σ H ρ ∧ p ρ Q' ∧ ∀ vs H2 F2 ds, Fr B.pt F (hid H B.pt) F2 H2 → AgL X.K F2 (hid H2 B.pt) B.pt vs ds → Q' ds → Q vs H2
def PG' (X : Cx) (es : List Expr) (p : GX) : Prop := PA X es (lfG X p)
def calE (c : FX) (l : GX) : EX := fun ρ => bnd (l ρ) fun as => bnd (c as) fun r => ret r.rr
/-- what a def gave back -/
def ReR (K : PySem.W.Frag) (pt : Option Addr) (R F2 H2 : Hp) (v : V) : Re → Prop
  | .val d => Rv K F2 v d
  | .fr o => ∃ p, v = .ref p ∧ R p = none ∧ pt ≠ some p ∧ F2 p = none ∧ ObR K F2 H2 p o
def spP (K : PySem.W.Frag) (c : FX) : Sp := fun vs H Q _ => ∃ pt F as Q', Same F (hid H pt) ∧ (∀ a, pt = some a → PotAt H a) ∧ AgL K F (hid H pt) pt vs as ∧ c as Q' ∧
  ∀ v H2 F2 r, Fr pt F (hid H pt) F2 H2 → ReR K pt (hid H pt) F2 H2 v r → Q' r → Q v H2
section
variable {X : Cx} {e : Expr} {es : List Expr} {p : EX} {l : GX} {pos : Pos}
theorem RrR.arg {K : PySem.W.Frag} {B : Bs} {F F2 H H2 : Hp} {σ : Sg} {ρ : Rho} {v : V} {r : Rr} {g : Ag} (rp : Rp K B F σ H ρ) (f : Fr B.pt F (hid H B.pt) F2 H2) (q : RrR K B.pt (hid H B.pt) F2 H2 σ ρ v r)
    (e : r.arg ρ = some g) : AgR K F2 (hid H2 B.pt) B.pt v g := by
  have go : (r.look ρ).map Ag.d = some g → AgR K F2 (hid H2 B.pt) B.pt v g := fun e => by
    cases e1 : r.look ρ with
    | none => rw [e1] at e; cases e
    | some d => rw [e1] at e; cases e; exact q.look rp f e1
  cases r with
  | pot => cases e; exact q
  | _ => exact go e
theorem pg_nil' : PG' X [] gnil := PA.weak pa_nil fun σ H Q ⟨B, F, ρ, Q', rp, hp, k⟩ => k [] H F [] rp.fr.again .nil hp
theorem pg_cons' (he : PX X e p) (hl : PG' X es l) (hs : starEach (e :: es) X.env = (false, eval e X.env) :: starEach es X.env := by rfl) : PG' X (e :: es) (gcons p l) := by
  refine PA.weak (pa_cons he hl hs) fun σ H Q ⟨B, F, ρ, Q', rp, hp, k⟩ => ?_
  refine ⟨B, F, ρ, _, rp, hp, fun v H1 F1 r f q q2 => ?_⟩
  obtain ⟨g, e1, q3⟩ := opt_ok q2
  have a := q.arg rp f e1
  exact ⟨B, F1, ρ, _, rp.fra f, q3, fun vs H2 F2 ds f2 r2 q4 => k (v :: vs) H2 F2 (g :: ds) (f.trans f2) (.cons (a.mono f2.ff f2.rhid) r2) q4⟩
theorem px_call {k : Nat} {f : Addr} {fd : FuncData} {ps : List Str} {c : FX} {x : Str} {p' : Pos} (F : FnOk X.prog X.w X.K X.mg X.base CX0 k f fd ps (spP X.K c)) (hr : Room k X.A) (hm : X.mg x = some (.ref f)) (hk : PySem.W.keepIn X.K (.ref f) = true)
    (hb : Binds X.K fd ps []) (ha : PG' X (e :: es) l) (hg : Gl X x := by (unfold L2.Gl; kernel_rfl)) (hd : (x == ("__debug__" : Str)) = false := by decide) (he : starEach (e :: es) X.env = (false, eval e X.env) :: starEach es X.env := by rfl)
    (hpl : (backTo pos (starEach es X.env)).any (·.1) = false := by rfl) : PX X (.Call (.Name x p') (e :: es) [] pos) (calE c l) := by
  refine PE.weak (pe_call F hr hg hm hk hb .nil pass0 ha hd he hpl) fun σ H Q ⟨B, F, ρ, Q', rp, hp, k⟩ => ?_
  refine ⟨B, F, ρ, _, rp, hp, fun vs H1 F1 as f r q => ?_⟩
  refine ⟨B.pt, F1, as, _, f.fh, f.pot, by rw [List.append_nil]; exact r, q, fun v H2 F2 re f2 rr q2 => ?_⟩
  refine k v H2 F2 re.rr (f.trans f2) ?_ q2
  cases re with
  | val d => exact rr
  | fr o =>
    obtain ⟨p, e1, h1, h2⟩ := rr
    refine ⟨p, e1, ?_, h2⟩
    cases c : hid H B.pt p with
    | none => rfl
    | some u => rw [f.rhid p u c] at h1; cases h1
end

/-! ### built-ins -/
section
variable {X : Cx} {a b : Expr} {pa pb : EX} {pos p' : Pos} {x : Str} {id T : String} {r : List V → Hp → VK → Prop} {m : D → M Rr} {m2 : D → D → M Rr}
theorem px_b1 (hc : CallR X (.builtin id) r) (h : Op1 X (fun x H Q => r [x] H Q) m) (hm : X.mg x = none) (ha : PX X a pa) (hv : bootBuiltins x = some (.builtin id) := by decide +kernel) (hg : Gl X x := by (unfold L2.Gl; kernel_rfl))
    (hn : x ≠ "__name__" := by decide) (hdb : (x == ("__debug__" : Str)) = false := by decide) (he : starEach [a] X.env = (false, eval a X.env) :: starEach [] X.env := by rfl) : PX X (.Call (.Name x p') [a] [] pos) (u1 m pa) :=
  PE.weak (pe_callB hc hg hm hv (pa_cons ha pa_nil he) hn hdb he rfl) fun _ _ _ q => core1 (r := fun x H Q => r [x] H Q) h q
theorem px_t1 (hc : CallR X (.type T) r) (h : Op1 X (fun x H Q => r [x] H Q) m) (hm : X.mg x = none) (ha : PX X a pa) (hv : bootBuiltins x = some (.type T) := by decide +kernel) (hg : Gl X x := by (unfold L2.Gl; kernel_rfl))
    (hn : x ≠ "__name__" := by decide) (hdb : (x == ("__debug__" : Str)) = false := by decide) (he : starEach [a] X.env = (false, eval a X.env) :: starEach [] X.env := by rfl) : PX X (.Call (.Name x p') [a] [] pos) (u1 m pa) :=
  PE.weak (pe_callTy hc hg hm hv (pa_cons ha pa_nil he) hn hdb he rfl) fun _ _ _ q => core1 (r := fun x H Q => r [x] H Q) h q
theorem px_b2 (hc : CallR X (.builtin id) r) (h : Op2 X (fun x y H Q => r [x, y] H Q) m2) (hm : X.mg x = none) (ha : PX X a pa) (hb : PX X b pb) (hv : bootBuiltins x = some (.builtin id) := by decide +kernel) (hg : Gl X x := by (unfold L2.Gl; kernel_rfl))
    (hn : x ≠ "__name__" := by decide) (hdb : (x == ("__debug__" : Str)) = false := by decide) (he : starEach [a, b] X.env = (false, eval a X.env) :: starEach [b] X.env := by rfl) (he2 : starEach [b] X.env = (false, eval b X.env) :: starEach [] X.env := by rfl)
    (hpl : (backTo pos (starEach [b] X.env)).any (·.1) = false := by rfl) : PX X (.Call (.Name x p') [a, b] [] pos) (u2 m2 pa pb) :=
  PE.weak (pe_callB hc hg hm hv (pa_cons ha (pa_cons hb pa_nil he2) he) hn hdb he hpl) fun _ _ _ q => core2 (r := fun x y H Q => r [x, y] H Q) h q
end

/-! ### statements -/
def lfS (X : Cx) (s : SX) : TS := fun D σ H => ∃ B F ρ Q', Rp X.K B F σ H ρ ∧ s ρ Q' ∧
  (∀ σ2 H2 F2 ρ2, Same F F2 → Rp X.K B F2 σ2 H2 ρ2 → Q' (.nx ρ2) → D.nx σ2 H2) ∧ (∀ σ2 H2 F2 ρ2, Same F F2 → Rp X.K B F2 σ2 H2 ρ2 → Q' (.bk ρ2) → D.bk σ2 H2) ∧ (∀ σ2 H2 F2 ρ2, Same F F2 → Rp X.K B F2 σ2 H2 ρ2 → Q' (.ct ρ2) → D.ct σ2 H2) ∧
  ∀ v H2 F2 r, Fr B.pt B.F0 B.R F2 H2 → ReR X.K B.pt B.R F2 H2 v r → Q' (.rt r) → D.rt v H2
def PP (X : Cx) (st : Stmt) (s : SX) : Prop := PS X st (lfS X s)
def PB (X : Cx) (st : List Stmt) (s : SX) : Prop := PSs X st (lfS X s)
section
variable {X : Cx} {st : Stmt} {rest : List Stmt} {s t : SX} {e : Expr} {p : EX} {pos : Pos}
theorem pb_nil : PB X [] sNil := PSs.weak pss_nil fun D σ H ⟨B, F, ρ, Q', rp, hp, k, _⟩ => k σ H F ρ (Same.refl _) rp hp
theorem pb_cons (h : PP X st s) (hr : PB X rest t) : PB X (st :: rest) (sSeq s t) := by
  refine PSs.weak (pss_cons h hr) fun D σ H ⟨B, F, ρ, Q', rp, hp, k1, k2, k3, k4⟩ => ?_
  refine ⟨B, F, ρ, _, rp, hp, fun σ2 H2 F2 ρ2 sm rp2 q => ?_, k2, k3, k4⟩
  exact ⟨B, F2, ρ2, _, rp2, q, fun σ3 H3 F3 ρ3 s3 => k1 σ3 H3 F3 ρ3 (sm.trans s3), fun σ3 H3 F3 ρ3 s3 => k2 σ3 H3 F3 ρ3 (sm.trans s3), fun σ3 H3 F3 ρ3 s3 => k3 σ3 H3 F3 ρ3 (sm.trans s3), k4⟩
theorem pb_one (h : PP X st s) : PB X [st] s := pss_one h
theorem pb_never {sts : List Stmt} : PB X sts sNever := PSs.weak pss_never fun D σ H ⟨B, F, ρ, Q', rp, hp, _⟩ => hp.elim
theorem pp_never : PP X st sNever := PS.weak ps_never fun D σ H ⟨B, F, ρ, Q', rp, hp, _⟩ => hp.elim
theorem pp_break : PP X (.Break pos) sBreak := PS.weak ps_break fun D σ H ⟨B, F, ρ, Q', rp, hp, k1, k2, k3, k4⟩ => k2 σ H F ρ (Same.refl _) rp hp
theorem pp_continue : PP X (.Continue pos) sCont := PS.weak ps_continue fun D σ H ⟨B, F, ρ, Q', rp, hp, k1, k2, k3, k4⟩ => k3 σ H F ρ (Same.refl _) rp hp
theorem pp_if {c : Expr} {a b : List Stmt} {tc : Rho → M Bool} (hc : PTt X c tc) (ha : PB X a s) (hb : PB X b t) : PP X (.If c a b pos) (sIf tc s t) := by
  refine PS.weak (ps_if hc ha hb) fun D σ H ⟨B, F, ρ, Q', rp, hp, k1, k2, k3, k4⟩ => ?_
  refine lfT_of rp hp fun c H1 F1 f q => ?_
  have l1 := fun σ3 H3 F3 ρ3 (s3 : Same F1 F3) => k1 σ3 H3 F3 ρ3 (f.ff.trans s3)
  have l2 := fun σ3 H3 F3 ρ3 (s3 : Same F1 F3) => k2 σ3 H3 F3 ρ3 (f.ff.trans s3)
  have l3 := fun σ3 H3 F3 ρ3 (s3 : Same F1 F3) => k3 σ3 H3 F3 ρ3 (f.ff.trans s3)
  cases c with
  | true => exact ⟨B, F1, ρ, Q', rp.fra f, q, l1, l2, l3, k4⟩
  | false => exact ⟨B, F1, ρ, Q', rp.fra f, q, l1, l2, l3, k4⟩
theorem pp_expr (he : PX X e p) (hs : swapsWith e none pos.line X.env = pure false := by kernel_rfl) : PP X (.Expr e pos) (sDrop p) := by
  refine PS.weak (ps_expr he hs) fun D σ H ⟨B, F, ρ, Q', rp, hp, k, _⟩ => ?_
  exact ⟨B, F, ρ, _, rp, hp, fun v H1 F1 r f q q2 => k σ H1 F1 ρ f.ff (rp.fra f) q2⟩
theorem RrR.re {K : PySem.W.Frag} {B : Bs} {F F2 H H2 : Hp} {σ : Sg} {ρ : Rho} {v : V} {r : Rr} {x : Re} (rp : Rp K B F σ H ρ) (f : Fr B.pt F (hid H B.pt) F2 H2) (q : RrR K B.pt (hid H B.pt) F2 H2 σ ρ v r) (e : r.re ρ = some x) : ReR K B.pt B.R F2 H2 v x := by
  cases r with
  | val d => cases e; exact q
  | pot => cases e
  | fr o =>
    cases e
    obtain ⟨p, e1, h1, h2⟩ := q
    refine ⟨p, e1, ?_, h2⟩
    cases c : B.R p with
    | none => rfl
    | some u => rw [rp.fr.rhid p u c] at h1; cases h1
  | al i =>
    have rp2 := rp.fra f
    obtain ⟨e1, q⟩ := q
    rcases q with ⟨d', e2⟩ | ⟨o, e2⟩
    · have e3 : (Rr.al i).re ρ = none := by show (match ρ[i]? with | some (.own o) => some (Re.fr o) | some (.fz d) => some (.val d) | _ => none) = _; rw [e2]
      rw [e3] at e; cases e
    · have e3 : (Rr.al i).re ρ = some (.fr o) := by show (match ρ[i]? with | some (.own o) => some (Re.fr o) | some (.fz d) => some (.val d) | _ => none) = _; rw [e2]
      rw [e3] at e
      cases e
      obtain ⟨p, e4, h1, h2, h3, h4⟩ := rp2.sl i _ e2
      rw [e1] at e4
      cases e4
      exact ⟨p, rfl, h1, h2, h3, h4⟩
theorem pp_ret (he : PX X e p) : PP X (.Return (some e) pos) (sRet p) := by
  refine PS.weak (ps_ret he) fun D σ H ⟨B, F, ρ, Q', rp, hp, k1, k2, k3, k4⟩ => ?_
  refine ⟨B, F, ρ, _, rp, hp, fun v H1 F1 r f q q2 => ?_⟩
  obtain ⟨x, e1, q3⟩ := opt_ok q2
  exact k4 v H1 F1 x (rp.fr.trans f) (q.re rp f e1) q3
/-- a name is set -/
theorem Rp.set {K : PySem.W.Frag} {B : Bs} {F F2 H H2 : Hp} {σ : Sg} {ρ : Rho} {i : Nat} {v : V} {r : Rr} {s : Sl} (rp : Rp K B F σ H ρ) (f : Fr B.pt F (hid H B.pt) F2 H2) (q : RrR K B.pt (hid H B.pt) F2 H2 σ ρ v r)
    (e : r.sl ρ = some s) (hi : i < ρ.length) : Rp K B F2 (σ.set i (some v)) H2 (ρ.set i s) := by
  have rp2 := rp.fra f
  have hi' : i < σ.length := by rw [← rp.len]; exact hi
  have key : SlR K B F2 H2 (some (some v)) s ∧ ∀ o, s = .own o → ∀ (j : Nat) (o' : D) (p : Addr), ρ[j]? = some (.own o') → v = .ref p → σ[j]? ≠ some (some (.ref p)) := by
    cases r with
    | val d => cases e; exact ⟨⟨v, rfl, q⟩, fun o h => nomatch h⟩
    | pot => cases e; obtain ⟨a, e1, e2⟩ := q; subst e1; exact ⟨⟨a, rfl, e2⟩, fun o h => nomatch h⟩
    | fr o =>
      cases e
      obtain ⟨p, e1, h1, h2, h3, h4⟩ := q
      subst e1
      refine ⟨⟨p, rfl, ?_, h2, h3, h4⟩, fun o' _ j o2 p2 hj hv hc => ?_⟩
      · cases c : B.R p with
        | none => rfl
        | some u => rw [rp.fr.rhid p u c] at h1; cases h1
      · cases hv
        obtain ⟨p3, e4, _, g2, _, g4⟩ := rp.sl j _ hj
        rw [hc] at e4
        cases e4
        obtain ⟨u, hu⟩ := g4.there
        rw [hid_ne g2, hu] at h1
        cases h1
    | al j =>
      obtain ⟨e1, q⟩ := q
      rcases q with ⟨d', e2⟩ | ⟨o, e2⟩
      · have e3 : (Rr.al j).sl ρ = some (.rd d') := by show (match ρ[j]? with | some (.rd d) => some (Sl.rd d) | some (.fz d) => some (.fz d) | _ => none) = _; rw [e2]
        rw [e3] at e
        cases e
        obtain ⟨v', e4, h⟩ := rp2.sl j _ e2
        rw [e1] at e4
        cases e4
        exact ⟨⟨v, rfl, h⟩, fun o h => nomatch h⟩
      · have e3 : (Rr.al j).sl ρ = none := by show (match ρ[j]? with | some (.rd d) => some (Sl.rd d) | some (.fz d) => some (.fz d) | _ => none) = _; rw [e2]
        rw [e3] at e
        cases e
  obtain ⟨k1, k2⟩ := key
  refine ⟨rp2.fr, by rw [List.length_set, List.length_set]; exact rp2.len, fun j t ht => ?_, fun j j' o o' p hne h1 h2 h3 => ?_⟩
  · by_cases hj : j = i
    · subst hj
      rw [List.getElem?_set_self hi] at ht
      rw [List.getElem?_set_self hi']
      cases ht
      exact k1
    · rw [List.getElem?_set_ne (Ne.symm hj)] at ht ⊢
      exact rp2.sl j t ht
  · by_cases hj : j = i
    · subst hj
      rw [List.getElem?_set_self hi] at h1
      rw [List.getElem?_set_self hi'] at h3
      rw [List.getElem?_set_ne hne] at h2 ⊢
      cases h1
      cases h3
      exact k2 o rfl j' o' p h2 rfl
    · rw [List.getElem?_set_ne (Ne.symm hj)] at h1 h3
      by_cases hj' : j' = i
      · subst hj'
        rw [List.getElem?_set_self hi] at h2
        rw [List.getElem?_set_self hi']
        cases h2
        intro hc
        cases hc
        exact k2 o' rfl j o p h1 rfl h3
      · rw [List.getElem?_set_ne (Ne.symm hj')] at h2 ⊢
        exact rp2.di j j' o o' p hne h1 h2 h3
theorem pp_set {i : Nat} {x : Str} {px : Pos} (hN : X.N.Nodup) (he : PX X e p) (hi : X.N[i]? = some x := by rfl) (hx : Loc X.env.scope x := by first | exact Or.inl rfl | exact Or.inr rfl) (hs : swapsWith e (some (.Name x px)) pos.line X.env = pure false := by kernel_rfl)
    (hf : X.fn x = true ∨ X.env.scope.names.lookup x = some .local := by first | exact .inl rfl | exact .inr rfl | assumption) : PP X (.Assign [.Name x px] e pos) (sSet i p) := by
  refine PS.weak (ps_set hN hi hx he hs hf) fun D σ H ⟨B, F, ρ, Q', rp, hp, k1, k2, k3, k4⟩ => ?_
  refine ⟨B, F, ρ, _, rp, hp, fun v H1 F1 r f q q2 => ?_⟩
  obtain ⟨s, e1, q3⟩ := opt_ok q2
  by_cases hl : i < ρ.length
  · rw [if_pos hl] at q3
    exact k1 _ H1 F1 _ f.ff (rp.set f q e1 hl) q3
  · rw [if_neg hl] at q3; exact q3.elim
end

/-! ### defs -/
theorem Paired.get {α β : Type} {R : α → β → Prop} : ∀ {xs : List α} {ys : List β} {i : Nat} {y : β}, Paired R xs ys → ys[i]? = some y → ∃ x, xs[i]? = some x ∧ R x y
  | _, _, _, _, .nil, e => by simp at e
  | _, _, 0, _, .cons r _, e => by simp at e; subst e; exact ⟨_, rfl, r⟩
  | _, _, i + 1, y, .cons _ t, e => by simpa using Paired.get (i := i) (y := y) t (by simpa using e)
theorem rp_start {K : PySem.W.Frag} {pt : Option Addr} {F H : Hp} {N : List Str} {vs : List V} {as : List Ag} (hs : Same F (hid H pt)) (hp : ∀ a, pt = some a → PotAt H a) (r : AgL K F (hid H pt) pt vs as) (hn : vs.length ≤ N.length) :
    Rp K ⟨F, hid H pt, pt⟩ F (L2.start N vs) H (as.map agS ++ List.replicate (N.length - as.length) .un) := by
  have hl := Paired.length r
  refine ⟨.refl hs hp, ?_, fun i s e => ?_, fun i j o o' p _ h1 => ?_⟩
  · unfold L2.start
    rw [List.length_append, List.length_append, List.length_map, List.length_map, List.length_replicate, List.length_replicate, hl]
  · by_cases c : i < as.length
    · rw [List.getElem?_append_left (by rw [List.length_map]; exact c), List.getElem?_map] at e
      have e' : as[i]? = some as[i] := List.getElem?_eq_getElem c
      obtain ⟨v, ev, rv⟩ := Paired.get r e'
      rw [e'] at e
      cases e
      have es : (L2.start N vs)[i]? = some (some v) := by
        unfold L2.start
        rw [List.getElem?_append_left (by rw [List.length_map, hl]; exact c), List.getElem?_map, ev]
        rfl
      rw [es]
      cases q : as[i] with
      | d d => rw [q] at rv; exact ⟨v, rfl, rv⟩
      | pot => rw [q] at rv; obtain ⟨a, e1, e2⟩ := rv; subst e1; exact ⟨a, rfl, e2⟩
    · rw [List.getElem?_append_right (by rw [List.length_map]; omega)] at e
      have : s = .un := by
        rw [List.getElem?_replicate] at e
        split at e
        · cases e; rfl
        · cases e
      subst this
      trivial
  · have : ∀ g : Ag, agS g ≠ .own o := fun g => by cases g <;> exact fun z => nomatch z
    by_cases c : i < as.length
    · rw [List.getElem?_append_left (by rw [List.length_map]; exact c), List.getElem?_map, List.getElem?_eq_getElem c] at h1
      exact absurd (Option.some.inj h1) (this _)
    · rw [List.getElem?_append_right (by rw [List.length_map]; omega), List.getElem?_replicate] at h1
      split at h1
      · cases h1
      · cases h1
theorem def_ok {P : Program} {w : World} {K : PySem.W.Frag} {mg : Str → Option Value} {base : Heap} {x qual : Str} {params : Arguments} {body : List Stmt} {scope : Scope} {dvs : List V} {kws : List (Str × V)} {f : Addr} {fd : FuncData} {N ps : List Str} {k n m : Nat} {b : SX}
    (F : FunD K x qual params body scope dvs kws f fd) (S : FnScope N ps scope) (hn : ps.length = n) (hm : N.length = m) (hnm : n ≤ m)
    (hbody : ∀ (cdv : Value) (A : Around) (outer : List Env) (s : Shared) (H : Hp) (E : XK), Room k (A.deeper (PyProof.Rows.envOfC qual scope s.heap.objs.size f cdv)) → PB (cxOf CX0 P w K mg base N qual scope f cdv A outer s H E).nox body b) :
    FnOk P w K mg base CX0 (k + 1) f fd ps (spP K (fn n m b)) := by
  have len : ∀ vs as pt F H (Q : Re → Prop), AgL K F (hid H pt) pt vs as → fn n m b as Q → vs.length = ps.length := fun vs as pt F H Q r c => by
    have hl := Paired.length r
    unfold fn at c
    by_cases z : as.length = n
    · omega
    · rw [if_neg z] at c; exact c.elim
  refine F.ok S (fun vs H Q E ⟨pt, F, as, Q', _, _, r, c, _⟩ => len vs as pt F H Q' r c) fun cdv A outer s H vs Q E hr ⟨pt, F', as, Q', hs, hp, r, c, k4⟩ => ?_
  refine ⟨_, PSs.nox (hbody cdv A outer s H E hr), ?_⟩
  have hl := Paired.length r
  have hv := len vs as pt F' H Q' r c
  unfold fn at c
  have z : as.length = n := by omega
  rw [if_pos z] at c
  have rp := rp_start (N := N) hs hp r (by omega)
  have em : N.length - as.length = m - n := by omega
  rw [em] at rp
  exact ⟨_, F', _, _, rp, c, fun σ2 H2 F2 ρ2 _ rp2 q => k4 .non H2 F2 (.val .none) rp2.fr .non q, fun σ2 H2 F2 ρ2 _ rp2 q => q.elim, fun σ2 H2 F2 ρ2 _ rp2 q => q.elim, fun v H2 F2 re f2 rr q => k4 v H2 F2 re f2 rr q⟩
end PV

set_option Elab.async false
set_option linter.all false
set_option maxRecDepth 100000
set_option maxHeartbeats 1000000
/-! PvS: sorted. -/
namespace PV
open PySem PySem.Spec L2

abbrev EachIs := @PySem.W.EachIs
/-- the values us stand for ds -/
def Std (K : PySem.W.Frag) (F : Hp) (u : Value) (d : D) : Prop := ∃ x, RelV x u ∧ Rv K F x d
theorem std_of {K : PySem.W.Frag} {F : Hp} : ∀ {xs : List V} {us : List Value} {ds : List D}, Vals xs us → RvL K F xs ds → PySem.W.EachIs (Std K F) us ds
  | _, _, _, .nil, .nil => .nil
  | _, _, _, .cons r t, .cons h s => .cons ⟨_, r, h⟩ (std_of t s)
theorem of_std {K : PySem.W.Frag} {F : Hp} : ∀ {us : List Value} {ds : List D}, PySem.W.EachIs (Std K F) us ds → ∃ xs, Vals xs us ∧ RvL K F xs ds
  | _, _, .nil => ⟨[], .nil, .nil⟩
  | _, _, .cons ⟨x, r, h⟩ t => by
    obtain ⟨xs, a, b⟩ := of_std t
    exact ⟨x :: xs, .cons r a, .cons h b⟩
theorem each_mem {α β : Type} {R S : α → β → Prop} : ∀ {as : List α} {bs : List β}, PySem.W.EachIs R as bs → (∀ a b, b ∈ bs → R a b → S a b) → PySem.W.EachIs S as bs
  | _, _, .nil, _ => .nil
  | _, _, .cons h t, k => .cons (k _ _ List.mem_cons_self h) (each_mem t fun a b hb => k a b (List.mem_cons_of_mem _ hb))
structure Srt (ds : List D) : Prop where
  al : PySem.W.AllAlike (ds.map D.p)
  so : PySem.W.Sortable (ds.map D.p)
  sh : ∀ d ∈ ds, SeqAt.shaped d.p = true
theorem srt_of {ds : List D} (h : okSort ds = true) : Srt ds := by
  unfold okSort at h
  rw [Bool.and_eq_true, List.all_eq_true] at h
  obtain ⟨h1, h2⟩ := h
  have e : ∀ d ∈ ds, shp d = true ∧ isNon d = false ∧ ∀ b ∈ ds, PySem.W.alike d.p b.p = true := fun d hd => by
    have q := h1 d hd
    rw [Bool.and_eq_true, Bool.and_eq_true, List.all_eq_true] at q
    exact ⟨q.1.1, by simpa using q.1.2, q.2⟩
  refine ⟨fun d hd d' hd' => ?_, ?_, fun d hd => (e d hd).1⟩
  · obtain ⟨b, hb, rfl⟩ := List.mem_map.mp hd
    obtain ⟨b', hb', rfl⟩ := List.mem_map.mp hd'
    exact (e b hb).2.2 b' hb'
  · rw [Bool.or_eq_true, List.all_eq_true, List.all_eq_true] at h2
    rcases h2 with h2 | h2
    · refine .inl fun d hd => ?_
      obtain ⟨b, hb, rfl⟩ := List.mem_map.mp hd
      have q := h2 b hb
      cases b with
      | tuple xs =>
        cases xs with
        | nil => cases q
        | cons x r => exact ⟨x.p, D.ps r, by rw [D.p, D.ps]⟩
      | _ => cases q
    · refine .inr fun d hd => ?_
      obtain ⟨b, hb, rfl⟩ := List.mem_map.mp hd
      have q := h2 b hb
      have q2 := (e b hb).2.1
      cases b with
      | tuple xs => cases q
      | none => cases q2
      | _ => exact ⟨fun z => (by rw [D.p] at z; cases z), fun xs z => (by rw [D.p] at z; cases z)⟩
section
variable {X : Cx} {pins : List (Addr × Obj)} {σ : Sg} {H F : Hp} {s : Shared}
theorem reads_of (I : Inv X pins σ H s) (e : Same F H) {us : List Value} {ds : List D} (S : Srt ds) (h : PySem.W.EachIs (Std X.K F) us ds) : PySem.W.EachIs (fun v b => ∃ as, Reads s.heap v (D.p b) as) us ds :=
  each_mem h fun u d hd ⟨x, r, h⟩ => Dp.reads I d.p x u (h.dp e (SeqAt.canLay_of_shaped (S.sh d hd))) r
theorem room_of (hu : X.A.units + 66 < cLine) {ds : List D} (S : Srt ds) : ∀ b, b ∈ ds → X.A.units + 2 + (D.p b).depth < cLine := fun b hb => by
  have := SeqAt.depth_of_shaped (S.sh b hb)
  omega
def rSortP (K : PySem.W.Frag) : List V → Hp → VK → Prop := fun vs H Q => ∃ (a : Addr) (xs : List V) (ds : List D) (F : Hp), vs = [.ref a] ∧ SqL K H a xs ∧ Same F H ∧ RvL K F xs ds ∧ Srt ds ∧ ds.length ≤ sizeLine ∧
  ∀ p ys, H p = none → RvL K F ys (dsort ds) → Q (.ref p) (upd H p (.lst ys))
theorem sort_len {α : Type} (le : α → α → Bool) (l : List α) : (l.mergeSort le).length = l.length := (List.mergeSort_perm l le).length_eq
theorem cr_sortP (hu : X.A.units + 66 < cLine) : CallR X (.builtin "sorted") (rSortP X.K) := by
  intro pins s σ H vs us Q I r h
  obtain ⟨a, xs, ds, F, rfl, hs, e, hv, S, z, q⟩ := h
  obtain ⟨its, rv, hl, hz⟩ := I.list hs
  rw [Vals.ref1 r]
  have st := std_of rv hv
  refine PySem.W.sorted_data (R := Std X.K F) (enc := D.p) hl.isList st (reads_of I e S st) S.al S.so z (room_of hu S) fun out hlen ho => ?_
  obtain ⟨ys, y1, y2⟩ := of_std ho
  obtain ⟨ep, he'⟩ := PyProof.Rows.sortedAll_at s.heap its (List.toArray out)
  have hl2 : ys.length ≤ sizeLine := by rw [y2.length, sort_len]; exact z
  exact ⟨.ref _, upd H (s.heap.objs.size + 1) (.lst ys), I.laid (t' := s.toks) (fun _ _ => PyProof.Rows.sortedAll_old) (Nat.le_succ _) ⟨hl2, out, ep, y1, he'⟩, rfl, q _ _ (I.hok.fresh (Nat.le_succ _)) y2⟩
end
/-- the sort of a list that was just laid -/
theorem sort_fresh {prog : Program} {w : World} {A : Around} {E : Value → Shared → Prop} {K : PySem.W.Frag} {F : Hp} {s : Shared} {vs : List Value} {ds : List D} {Q : Value → Shared → Prop} (hu : A.units + 66 < cLine) (st : PySem.W.EachIs (Std K F) vs ds)
    (er : PySem.W.EachIs (fun v b => ∃ as, Reads s.heap v (D.p b) as) vs ds) (S : Srt ds) (z : ds.length ≤ sizeLine)
    (h : ∀ out : List Value, PySem.W.EachIs (Std K F) out (dsort ds) → Q .none { s with heap := PyProof.Rows.sortedHeap (s.heap.push (PyProof.Rows.seqObj "list" vs.toArray 0)) s.heap.objs.size vs (List.toArray out) }) :
    wpAny (model prog w) A (call (.builtin "list.sort") [.ref s.heap.objs.size]) Q E { s with heap := s.heap.push (PyProof.Rows.seqObj "list" vs.toArray 0) } := by
  have ho : (s.heap.push (PyProof.Rows.seqObj "list" vs.toArray 0)).get? s.heap.objs.size = some (PyProof.Rows.seqObj "list" vs.toArray 0) := Heap.get?_push_size _ rfl
  have er' : PySem.W.EachIs (fun v b => ∃ as, Reads (PySem.W.sortingHeap (s.heap.push (PyProof.Rows.seqObj "list" vs.toArray 0)) s.heap.objs.size vs) v (D.p b) as) vs ds :=
    er.mono fun _ _ ⟨as, r⟩ => ⟨as, PyProof.Rows.Reads.keeps (fun b o e => PySem.W.sortingHeap_old (Nat.ne_of_lt (Heap.lt_size e)) (Heap.get?_push_of_some _ e)) r⟩
  refine wpAny_call_entry PyProof.Rows.slot_list_sort ⟨_, ho, rfl⟩ PyProof.Rows.entry_list_sort (PySem.W.list_sort_vals (s := { s with heap := s.heap.push (PyProof.Rows.seqObj "list" vs.toArray 0) })
    (κ := PySem.W.dataKind (PySem.W.sortingHeap (s.heap.push (PyProof.Rows.seqObj "list" vs.toArray 0)) s.heap.objs.size vs) (ds.map D.p)) ho
    (PySem.W.SortsAt.data (s := { s with heap := PySem.W.sortingHeap (s.heap.push (PyProof.Rows.seqObj "list" vs.toArray 0)) s.heap.objs.size vs })
      (PySem.W.each_map (R := fun v d => ∃ as, Reads (PySem.W.sortingHeap (s.heap.push (PyProof.Rows.seqObj "list" vs.toArray 0)) s.heap.objs.size vs) v d as) D.p er') S.al S.so (PySem.W.bound_map fun b hb => ?_)) (by rw [st.length]; exact z) ⟨.none, rfl, ?_⟩) (PyProof.Rows.args_list_sort _)
  · have := SeqAt.depth_of_shaped (S.sh b hb)
    show A.units + 1 + _ < cLine
    omega
  · exact h _ (PySem.W.sortVals_data false st er' S.al)
section
variable {X : Cx}
def kyD (l : List (Ky × D)) : List D := l.map fun p => p.1.d
def tkD (l : List (List Ky × D)) : List D := l.map fun p => tkd p.1
theorem ky_rv {K : PySem.W.Frag} {F : Hp} (k : Ky) : Rv K F (kV k) k.d := by
  cases k with
  | inl i => exact .int i
  | inr x => exact .str x
theorem kys_rv {K : PySem.W.Frag} {F : Hp} : ∀ ks : List Ky, RvL K F (ks.map kV) (ks.map Ky.d)
  | [] => .nil
  | k :: ks => .cons (ky_rv k) (kys_rv ks)
def rSortK (K : PySem.W.Frag) : List V → Hp → VK → Prop := fun vs H Q => ∃ (a : Addr) (l : List (Key × V)) (F : Hp), vs = [.ref a] ∧ Rd H a (.dK l) ∧ Same F H ∧ Srt (l.map fun p => Ky.d p.1) ∧
  ∀ p ys, H p = none → ys.length ≤ sizeLine → RvL K F ys (dsort (l.map fun p => Ky.d p.1)) → Q (.ref p) (upd H p (.lst ys))
theorem cr_sortK (hc : X.calm = true) (hu : X.A.units + 80 < cLine) : CallR X (.builtin "sorted") (rSortK X.K) := by
  intro pins s σ H xs us Q I r q
  obtain ⟨a, kvs, F, ex, hd, e, S, q⟩ := q
  subst ex
  obtain ⟨u, eu, rx⟩ := vals1 r
  subst eu
  cases rx
  obtain ⟨z, lo, vs, rel, dd⟩ := dk_rd I.hok hd
  obtain ⟨ep, hat⟩ := dd.dictAt
  have hl : kvs.length = vs.length := Paired.length rel
  have h16 : vs.length ≤ sizeLine := by rw [← hl]; exact z
  refine Calls.call_function_entry PyProof.Rows.kind_sorted PyProof.Rows.plain_sorted PyProof.Rows.entry_sorted (PyProof.Rows.args_sorted1 _) ?_
  unfold Builtin.«sorted»
  refine wpAny_bind (m := checkCount "sorted" 1 1 _) (wpAny_pure ?_)
  refine wpAny_bind (PySem.W.kdu_collect (A := X.A.in1) (PySem.W.kdl_dict (knd := mixKind X.prog X.w) (kvs := vs) (ep := ep) lo) (I.ok.hd hc) hat h16 fun h' tk acc hk hacc => ?_)
  have el : acc.toList.length = acc.size := by simp
  have rv : Vals (kvs.map fun kv => kV kv.1) acc.toList := by
    refine vals_of_at (by rw [List.length_map, el, hacc.1, hl]) fun j x w h1 h2 => ?_
    obtain ⟨k, y, hky, hi⟩ := hacc.2 j w (by rw [← Array.getElem?_toList]; exact h2)
    have e1 : (kvs.map (·.1))[j]? = some k := by
      rw [KV.keys rel, List.getElem?_map, hky] <;> rfl
    have e2 : (kvs.map fun kv => kV kv.1)[j]? = some (kV k) := by
      have e3 : (kvs.map fun kv => kV kv.1) = (kvs.map (·.1)).map kV := by rw [List.map_map] <;> rfl
      rw [e3, List.getElem?_map, e1] <;> rfl
    rw [e2] at h1
    cases h1
    exact keyIs_rel hi
  have hRv : RvL X.K F (kvs.map fun kv => kV kv.1) (kvs.map fun p => Ky.d p.1) := by
    have h1 := kys_rv (K := X.K) (F := F) (kvs.map (·.1))
    rw [List.map_map, List.map_map] at h1
    exact h1
  have I1 : Inv X pins σ H { s with heap := h', toks := tk } := I.kept hk
  have st := std_of rv hRv
  have zz : (kvs.map fun p => Ky.d p.1).length ≤ sizeLine := by rw [List.length_map]; exact z
  refine wpAny_bind (wpAny_newList ?_ (by rw [← rv.length, List.length_map]; exact z))
  show wpAny _ _ _ _ _ { s with heap := h'.push (PyProof.Rows.seqObj "list" acc.toList.toArray 0), toks := tk }
  refine wpAny_bind (wpAny_holding (sort_fresh (s := { s with heap := h', toks := tk }) (K := X.K) (F := F) (by show X.A.units + 1 + 66 < cLine; omega) st (reads_of I1 e S st) S zz fun out ho => ?_))
  obtain ⟨ys, y1, y2⟩ := of_std ho
  have hl2 : ys.length ≤ sizeLine := by rw [y2.length]; unfold dsort; rw [sort_len]; exact zz
  obtain ⟨e', he'⟩ := PyProof.Rows.sortedHeap_at (vs := acc.toList) (out := List.toArray out) (show (h'.push (PyProof.Rows.seqObj "list" acc.toList.toArray 0)).get? h'.objs.size = some (PyProof.Rows.seqObj "list" acc.toList.toArray 0) from Heap.get?_push_size _ rfl)
  refine wpAny_pure ⟨_, rfl, .ref h'.objs.size, upd H h'.objs.size (.lst ys), I1.laid (t' := tk) (fun b u e => ?_) (Nat.le_refl _)
    (show ObjOk X.prog X.w _ _ _ (.lst ys) from ⟨hl2, out, e', y1, he'⟩), rfl, q _ _ (I1.hok.fresh (Nat.le_refl _)) hl2 y2⟩
  have hb : b < h'.objs.size := Heap.lt_size e
  rw [PyProof.Rows.sortedHeap_old (Nat.ne_of_lt hb) (by rw [PyProof.Rows.size_push']; exact Nat.lt_succ_of_lt hb)]
  exact Heap.get?_push_of_some _ e
def rSortT (K : PySem.W.Frag) : List V → Hp → VK → Prop := fun vs H Q => ∃ (a : Addr) (l : List (List Key × V)) (F : Hp), vs = [.ref a] ∧ Rd H a (.dT l) ∧ Same F H ∧ Srt (l.map fun p => tkd p.1) ∧ (∀ b ks, H b = some (.tup (List.map kV ks)) → F b = some (.tup (List.map kV ks))) ∧
  ∀ p ys, H p = none → RvL K F ys (dsort (l.map fun p => tkd p.1)) → Q (.ref p) (upd H p (.lst ys))
end
end PV

set_option Elab.async false
set_option linter.all false
set_option maxRecDepth 100000
set_option maxHeartbeats 1000000
/-! PvH: built-ins of values. -/
namespace PV
open PySem PySem.Spec L2

section
variable {X : Cx}
/-! ### sorted -/
def sortE : D → Option D
  | .list ds => if okSort ds = true then some (.list (dsort ds)) else none
  | .dk l => if okSort (kyD l) = true then some (.list (dsort (kyD l))) else none
  | _ => none
def rSorts (K : PySem.W.Frag) : List V → Hp → VK → Prop := fun vs H Q => rSortP K vs H Q ∨ rSortK K vs H Q
theorem cr_sorts (hc : X.calm = true) (hu : X.A.units + 80 < cLine) : CallR X (.builtin "sorted") (rSorts X.K) := (cr_sortP (by omega)).or (cr_sortK hc hu)
theorem RvK.keys {K : PySem.W.Frag} {F : Hp} : ∀ {l : List (Key × V)} {l2 : List (Ky × D)}, RvK K F l l2 → (l.map fun p => Ky.d p.1) = kyD l2
  | _, _, .nil => rfl
  | _, _, .cons h r => by rw [List.map_cons, RvK.keys r]; rfl
theorem o_sorts : Op1 X (fun x H Q => rSorts X.K [x] H Q) (nw sortE) := by
  intro pt F R F1 H1 σ ρ x a Q Q' f1 t q k
  obtain ⟨c, e, q2⟩ := opt_ok q
  obtain ⟨s1, s2⟩ := f1.two
  cases a with
  | list ds =>
    have e' : (if okSort ds = true then some (.list (dsort ds)) else none : Option D) = some c := e
    by_cases h : okSort ds = true
    · rw [if_pos h] at e'
      cases e'
      obtain ⟨p, xs, rfl, h1, h2, z⟩ := t
      refine .inl ⟨p, xs, ds, F1, rfl, Same.sq s2 h1, s1, h2, srt_of h, z, fun p' ys hp hy => Kt.lst k f1 hp hy ?_ q2⟩
      unfold dsort
      rw [sort_len]
      exact z
    · rw [if_neg h] at e'; cases e'
  | dk l2 =>
    have e' : (if okSort (kyD l2) = true then some (.list (dsort (kyD l2))) else none : Option D) = some c := e
    by_cases h : okSort (kyD l2) = true
    · rw [if_pos h] at e'
      cases e'
      obtain ⟨p, l, rfl, h1, h2⟩ := t
      have ek := h2.keys
      refine .inr ⟨p, l, F1, rfl, Same.rd s2 h1, s1, by rw [ek]; exact srt_of h, fun p' ys hp hz hy => ?_⟩
      rw [ek] at hy
      exact Kt.lst k f1 hp hy (by rw [← hy.length]; exact hz) q2
    · rw [if_neg h] at e'; cases e'
  | _ => cases e

/-! ### len -/
def rLens (K : PySem.W.Frag) : List V → Hp → VK → Prop := fun xs H Q => (∃ x n, xs = [x] ∧ LenV K x H n ∧ Q (.int n) H) ∨ ((∃ a kvs, xs = [V.ref a] ∧ H a = some (.dK kvs) ∧ Q (.int kvs.length) H) ∨ rLenT xs H Q)
theorem cr_lens : CallR X (.builtin "len") (rLens X.K) := call_len.or (call_lenD.or call_len_dT)
theorem o_len : Op1 X (fun x H Q => rLens X.K [x] H Q) (vl fun d => match d with | .list xs => some (.int xs.length) | .tuple xs => some (.int xs.length) | _ => none) := by
  intro pt F R F1 H1 σ ρ x a Q Q' f1 t q k
  obtain ⟨c, e, q2⟩ := opt_ok q
  obtain ⟨s1, s2⟩ := f1.two
  cases a with
  | list ds =>
    cases e
    obtain ⟨p, xs, rfl, h1, h2, z⟩ := t
    refine .inl ⟨_, xs.length, rfl, .inl ⟨xs, Same.sq s2 h1, rfl⟩, ?_⟩
    rw [h2.length]
    exact Kt.val k f1 (.int _) q2
  | tuple ds =>
    cases e
    cases (show Rv X.K F1 x (.tuple ds) from t) with
    | @tup _ xs _ h1 h2 z =>
      refine .inl ⟨_, xs.length, rfl, .inr ⟨xs, SqT.of (s1 _ _ h1), rfl⟩, ?_⟩
      rw [h2.length]
      exact Kt.val k f1 (.int _) q2
  | _ => cases e

/-! ### tuple(..), list(..) -/
theorem o_tuple : Op1 X (fun x H Q => ∃ p ys, [x] = [V.ref p] ∧ ((SqL X.K H p ys ∧ ∀ l, H l = none → Q (.ref l) (upd H l (.tup ys))) ∨ (SqT X.K H p ys ∧ Q (.ref p) H))) (vl tupD) := by
  intro pt F R F1 H1 σ ρ x a Q Q' f1 t q k
  obtain ⟨c, e, q2⟩ := opt_ok q
  obtain ⟨s1, s2⟩ := f1.two
  cases a with
  | list ds =>
    cases e
    obtain ⟨p, xs, rfl, h1, h2, z⟩ := t
    exact ⟨p, xs, rfl, .inl ⟨Same.sq s2 h1, fun l hl => Kt.tup k f1 hl h2 z q2⟩⟩
  | tuple ds =>
    cases e
    cases (show Rv X.K F1 x (.tuple ds) from t) with
    | tup h1 h2 z => exact ⟨_, _, rfl, .inr ⟨SqT.of (s1 _ _ h1), Kt.val k f1 (.tup h1 h2 z) q2⟩⟩
  | _ => cases e
theorem o_list : Op1 X (fun x H Q => ∃ p ys, [x] = [V.ref p] ∧ (SqL X.K H p ys ∨ SqT X.K H p ys) ∧ ∀ l, H l = none → Q (.ref l) (upd H l (.lst ys))) (nw listD) := by
  intro pt F R F1 H1 σ ρ x a Q Q' f1 t q k
  obtain ⟨c, e, q2⟩ := opt_ok q
  obtain ⟨s1, s2⟩ := f1.two
  cases a with
  | list ds =>
    cases e
    obtain ⟨p, xs, rfl, h1, h2, z⟩ := t
    exact ⟨p, xs, rfl, .inl (Same.sq s2 h1), fun l hl => Kt.lst k f1 hl h2 z q2⟩
  | tuple ds =>
    cases e
    cases (show Rv X.K F1 x (.tuple ds) from t) with
    | tup h1 h2 z => exact ⟨_, _, rfl, .inr (SqT.of (s1 _ _ h1)), fun l hl => Kt.lst k f1 hl h2 z q2⟩
  | _ => cases e

/-! ### numbers -/
theorem o_abs : Op1 X (fun x H Q => ∃ i, [x] = [V.int i] ∧ Q (.int (if i < 0 then -i else i)) H) (vl absD) := by
  intro pt F R F1 H1 σ ρ x a Q Q' f1 t q k
  cases a with
  | int i => cases t with | int => exact ⟨i, rfl, Kt.val k f1 (.int _) q⟩
  | _ => exact q.elim
theorem o_int : Op1 X (fun x H Q => (∃ i, [x] = [V.int i] ∧ Q (.int i) H) ∨ ∃ k, [x] = [V.bl k] ∧ Q (.int (if k then 1 else 0)) H) (vl intD) := by
  intro pt F R F1 H1 σ ρ x a Q Q' f1 t q k
  cases a with
  | int i => cases t with | int => exact .inl ⟨i, rfl, Kt.val k f1 (.int _) q⟩
  | bool i => cases t with | bl => exact .inr ⟨i, rfl, Kt.val k f1 (.int _) q⟩
  | _ => exact q.elim
theorem o_max2 : Op2 X (fun x y H Q => ∃ i j, [x, y] = [V.int i, V.int j] ∧ Q (.int (if j > i then j else i)) H) (vl2 max2D) := by
  intro pt F R F1 H1 σ ρ x y a b Q Q' f1 t u q k
  cases a with
  | int i =>
    cases b with
    | int j => cases t with | int => cases u with | int => exact ⟨i, j, rfl, Kt.val k f1 (.int _) q⟩
    | _ => exact q.elim
  | _ => exact q.elim
theorem o_min2 : Op2 X (fun x y H Q => ∃ i j, [x, y] = [V.int i, V.int j] ∧ Q (.int (if j < i then j else i)) H) (vl2 min2D) := by
  intro pt F R F1 H1 σ ρ x y a b Q Q' f1 t u q k
  cases a with
  | int i =>
    cases b with
    | int j => cases t with | int => cases u with | int => exact ⟨i, j, rfl, Kt.val k f1 (.int _) q⟩
    | _ => exact q.elim
  | _ => exact q.elim
theorem intL_of {K : PySem.W.Frag} {F : Hp} : ∀ {xs : List V} {ds : List D} {is : List Int}, RvL K F xs ds → intL ds = some is → xs = is.map V.int
  | _, _, _, .nil, e => by cases e; rfl
  | _, _, is, .cons (d := d) (ds := ds) h r, e => by
    cases d with
    | int i =>
      have e' : (intL ds).map (i :: ·) = some is := e
      cases e1 : intL ds with
      | none => rw [e1] at e'; cases e'
      | some js =>
        rw [e1] at e'
        cases e'
        cases h
        rw [intL_of r e1]
        rfl
    | _ => cases e
theorem boolL_of {K : PySem.W.Frag} {F : Hp} : ∀ {xs : List V} {ds : List D} {is : List Bool}, RvL K F xs ds → boolL ds = some is → xs = is.map V.bl
  | _, _, _, .nil, e => by cases e; rfl
  | _, _, is, .cons (d := d) (ds := ds) h r, e => by
    cases d with
    | bool i =>
      have e' : (boolL ds).map (i :: ·) = some is := e
      cases e1 : boolL ds with
      | none => rw [e1] at e'; cases e'
      | some js =>
        rw [e1] at e'
        cases e'
        cases h
        rw [boolL_of r e1]
        rfl
    | _ => cases e
theorem o_all : Op1 X (fun x H Q => rAll X.K [x] H Q) (vl allD) := by
  intro pt F R F1 H1 σ ρ x a Q Q' f1 t q k
  obtain ⟨c, e, q2⟩ := opt_ok q
  obtain ⟨s1, s2⟩ := f1.two
  cases a with
  | list ds =>
    have e' : (boolL ds).map (fun bs => D.bool (bs.all id)) = some c := e
    cases e1 : boolL ds with
    | none => rw [e1] at e'; cases e'
    | some bs =>
      rw [e1] at e'
      cases e'
      obtain ⟨p, xs, rfl, h1, h2, z⟩ := t
      have := boolL_of h2 e1
      subst this
      exact ⟨p, bs, rfl, Same.sq s2 h1, Kt.val k f1 (.bl _) q2⟩
  | _ => cases e
theorem o_any : Op1 X (fun x H Q => rAny X.K [x] H Q) (vl anyD) := by
  intro pt F R F1 H1 σ ρ x a Q Q' f1 t q k
  obtain ⟨c, e, q2⟩ := opt_ok q
  obtain ⟨s1, s2⟩ := f1.two
  cases a with
  | list ds =>
    have e' : (boolL ds).map (fun bs => D.bool (bs.any id)) = some c := e
    cases e1 : boolL ds with
    | none => rw [e1] at e'; cases e'
    | some bs =>
      rw [e1] at e'
      cases e'
      obtain ⟨p, xs, rfl, h1, h2, z⟩ := t
      have := boolL_of h2 e1
      subst this
      exact ⟨p, bs, rfl, Same.sq s2 h1, Kt.val k f1 (.bl _) q2⟩
  | _ => cases e
theorem o_sum : Op1 X (fun x H Q => rSum X.K [x] H Q) (vl sumD) := by
  intro pt F R F1 H1 σ ρ x a Q Q' f1 t q k
  obtain ⟨c, e, q2⟩ := opt_ok q
  obtain ⟨s1, s2⟩ := f1.two
  cases a with
  | list ds =>
    have e' : (intL ds).map (fun bs => D.int bs.sum) = some c := e
    cases e1 : intL ds with
    | none => rw [e1] at e'; cases e'
    | some bs =>
      rw [e1] at e'
      cases e'
      obtain ⟨p, xs, rfl, h1, h2, z⟩ := t
      have := intL_of h2 e1
      subst this
      exact ⟨p, bs, rfl, Same.sq s2 h1, Kt.val k f1 (.int _) q2⟩
  | _ => cases e
theorem max_one : ∀ (is : List Int) (a m : Int), (m = a ∨ m ∈ is) → a ≤ m → (∀ y ∈ is, y ≤ m) → is.foldl (fun a b => if b > a then b else a) a = m
  | [], a, m, h, h1, _ => by rcases h with h | h; exact h.symm; cases h
  | i :: is, a, m, h, h1, h2 => by
    rw [List.foldl_cons]
    have hi := h2 i List.mem_cons_self
    refine max_one is _ m ?_ ?_ fun y hy => h2 y (List.mem_cons_of_mem _ hy)
    · rcases h with h | h
      · by_cases c : i > a
        · omega
        · rw [if_neg c]; exact .inl h
      · rcases List.mem_cons.mp h with h | h
        · by_cases c : i > a
          · rw [if_pos c]; exact .inl h
          · rw [if_neg c]; left; omega
        · exact .inr h
    · by_cases c : i > a
      · rw [if_pos c]; exact hi
      · rw [if_neg c]; exact h1
theorem min_one : ∀ (is : List Int) (a m : Int), (m = a ∨ m ∈ is) → m ≤ a → (∀ y ∈ is, m ≤ y) → is.foldl (fun a b => if b < a then b else a) a = m
  | [], a, m, h, h1, _ => by rcases h with h | h; exact h.symm; cases h
  | i :: is, a, m, h, h1, h2 => by
    rw [List.foldl_cons]
    have hi := h2 i List.mem_cons_self
    refine min_one is _ m ?_ ?_ fun y hy => h2 y (List.mem_cons_of_mem _ hy)
    · rcases h with h | h
      · by_cases c : i < a
        · omega
        · rw [if_neg c]; exact .inl h
      · rcases List.mem_cons.mp h with h | h
        · by_cases c : i < a
          · rw [if_pos c]; exact .inl h
          · rw [if_neg c]; left; omega
        · exact .inr h
    · by_cases c : i < a
      · rw [if_pos c]; exact hi
      · rw [if_neg c]; exact h1
theorem o_max : Op1 X (fun x H Q => rMax X.K [x] H Q) (vl maxD) := by
  intro pt F R F1 H1 σ ρ x a Q Q' f1 t q k
  obtain ⟨c, e, q2⟩ := opt_ok q
  obtain ⟨s1, s2⟩ := f1.two
  cases a with
  | list ds =>
    have e' : ((intL ds).bind maxI).map D.int = some c := e
    cases e1 : intL ds with
    | none => rw [e1] at e'; cases e'
    | some bs =>
      rw [e1] at e'
      cases bs with
      | nil => cases e'
      | cons b bs =>
        cases e'
        obtain ⟨p, xs, rfl, h1, h2, z⟩ := t
        have := intL_of h2 e1
        subst this
        refine ⟨p, b :: bs, rfl, Same.sq s2 h1, by simp, fun m hm hmax => ?_⟩
        have e3 := max_one bs b m (by rcases List.mem_cons.mp hm with h | h; exact .inl h; exact .inr h) (hmax b List.mem_cons_self) fun y hy => hmax y (List.mem_cons_of_mem _ hy)
        rw [e3] at q2
        exact Kt.val k f1 (.int _) q2
  | _ => cases e
theorem o_min : Op1 X (fun x H Q => rMin X.K [x] H Q) (vl minD) := by
  intro pt F R F1 H1 σ ρ x a Q Q' f1 t q k
  obtain ⟨c, e, q2⟩ := opt_ok q
  obtain ⟨s1, s2⟩ := f1.two
  cases a with
  | list ds =>
    have e' : ((intL ds).bind minI).map D.int = some c := e
    cases e1 : intL ds with
    | none => rw [e1] at e'; cases e'
    | some bs =>
      rw [e1] at e'
      cases bs with
      | nil => cases e'
      | cons b bs =>
        cases e'
        obtain ⟨p, xs, rfl, h1, h2, z⟩ := t
        have := intL_of h2 e1
        subst this
        refine ⟨p, b :: bs, rfl, Same.sq s2 h1, by simp, fun m hm hmax => ?_⟩
        have e3 := min_one bs b m (by rcases List.mem_cons.mp hm with h | h; exact .inl h; exact .inr h) (hmax b List.mem_cons_self) fun y hy => hmax y (List.mem_cons_of_mem _ hy)
        rw [e3] at q2
        exact Kt.val k f1 (.int _) q2
  | _ => cases e

/-! ### list + list, tuple + tuple -/
def rCatR (K : PySem.W.Frag) : R2 := fun x y H Q => ∃ l b xs zs, x = .ref l ∧ y = .ref b ∧ SqL K H l xs ∧ SqL K H b zs ∧ xs.length + zs.length ≤ sizeLine ∧ ∀ p, H p = none → Q (.ref p) (upd H p (.lst (xs ++ zs)))
theorem op_catR : OpR X (binaryOp .Add) (rCatR X.K) := by
  intro pins s σ H x y v u Q I rx ry h
  obtain ⟨l, b, xs, zs, rfl, rfl, hH, hB, hz, q⟩ := h
  cases rx
  cases ry
  obtain ⟨its, r, ⟨⟨cls, dd, data, sl⟩, n, ho, hc, hdn, hd⟩, _⟩ := I.list hH
  obtain ⟨its2, r2, ⟨⟨cls2, dd2, data2, sl2⟩, n2, ho2, hc2, hdn2, hd2⟩, _⟩ := I.list hB
  simp only at hc hd hc2 hd2
  subst hc hd hc2 hd2
  have hl := r.length
  have hl2 := r2.length
  have ea : its.toArray ++ its2.toArray = (its ++ its2).toArray := by simp
  refine concat_meets ⟨_, ho, rfl⟩ ⟨_, ho2, rfl⟩ noFill_list_add seq_list_add PySem.F.slot_list_add PySem.F.entry_list_add (PySem.F.args_list_add_2 _ _)
    (PyProof.Rows.list_addW l b its.toArray its2.toArray n n2 dd dd2 sl sl2 (by rw [List.size_toArray, List.size_toArray]; omega)) ⟨ho, ho2, ?_⟩
  rw [ea]
  exact ⟨.ref _, _, I.lnew (t' := s.toks) (r.append r2) (by rw [List.length_append]; omega), rfl, q _ I.fresh⟩
/-- + of whole numbers, lists, tuples -/
def plusD (a b : D) : M Rr := match a, b with
  | .int i, .int j => ret (.val (.int (i + j)))
  | .list xs, .list ys => if xs.length + ys.length ≤ lim then ret (.fr (.list (xs ++ ys))) else fail
  | .tuple xs, .tuple ys => if xs.length + ys.length ≤ lim then ret (.val (.tuple (xs ++ ys))) else fail
  | _, _ => fail
def rPlus (K : PySem.W.Frag) : R2 := fun x y H Q => rI0 (fun i j => .int (i + j)) x y H Q ∨ (rCatR K x y H Q ∨ rCatA K x y H Q)
theorem op_plus : OpR X (binaryOp .Add) (rPlus X.K) := op_add.or (op_catR.or op_catA)
theorem o_plus : Op2 X (rPlus X.K) plusD := by
  intro pt F R F1 H1 σ ρ x y a b Q Q' f1 t u q k
  obtain ⟨s1, s2⟩ := f1.two
  cases a with
  | int i =>
    cases b with
    | int j => cases t with | int => cases u with | int => exact .inl ⟨i, j, rfl, rfl, Kt.val k f1 (.int _) q⟩
    | _ => exact q.elim
  | list xs =>
    cases b with
    | list ys =>
      have q' : (if xs.length + ys.length ≤ lim then ret (.fr (.list (xs ++ ys))) else fail : M Rr) Q' := q
      by_cases z : xs.length + ys.length ≤ lim
      · rw [if_pos z] at q'
        obtain ⟨p, vs, rfl, h1, h2, _⟩ := t
        obtain ⟨p2, vs2, rfl, h3, h4, _⟩ := u
        exact .inr (.inl ⟨p, p2, vs, vs2, rfl, rfl, Same.sq s2 h1, Same.sq s2 h3, by rw [h2.length, h4.length]; exact lim_line z, fun l hl => Kt.lst k f1 hl (h2.append h4) (by rw [List.length_append]; exact lim_line z) q'⟩)
      · rw [if_neg z] at q'; exact q'.elim
    | _ => exact q.elim
  | tuple xs =>
    cases b with
    | tuple ys =>
      have q' : (if xs.length + ys.length ≤ lim then ret (.val (.tuple (xs ++ ys))) else fail : M Rr) Q' := q
      by_cases z : xs.length + ys.length ≤ lim
      · rw [if_pos z] at q'
        cases (show Rv X.K F1 x (.tuple xs) from t) with
        | @tup a1 vs _ h1 h2 z1 =>
          cases (show Rv X.K F1 y (.tuple ys) from u) with
          | @tup a2 vs2 _ h3 h4 z2 =>
            refine .inr (.inr ⟨a1, a2, vs, vs2, rfl, rfl, SqT.of (s1 _ _ h1), SqT.of (s1 _ _ h3), by rw [h2.length, h4.length]; exact lim_line z, fun e => ?_, fun _ e => ?_, fun _ _ l hl => Kt.tup k f1 hl (h2.append h4) (by rw [List.length_append]; exact lim_line z) q'⟩)
            · subst e
              cases h2
              exact Kt.val k f1 (.tup h3 h4 z2) q'
            · subst e
              cases h4
              rw [List.append_nil] at q'
              exact Kt.val k f1 (.tup h1 h2 z1) q'
      · rw [if_neg z] at q'; exact q'.elim
    | _ => exact q.elim
  | _ => cases b <;> exact q.elim
end
end PV

set_option Elab.async false
set_option linter.all false
set_option maxRecDepth 100000
set_option maxHeartbeats 1000000
/-! PvI: targets, walks, for, while, comprehensions. -/
namespace PV
open PySem PySem.Spec L2

theorem Fr.mut {pt : Option Addr} {F R F2 H2 : Hp} {p : Addr} {u : HO} (a : Fr pt F R F2 H2) (h1 : R p = none) (h2 : pt ≠ some p) (h3 : F2 p = none) : Fr pt F R F2 (upd H2 p u) := by
  refine ⟨a.ff, a.fn, fun c o h => ?_, a.rp, fun c o h => ?_, fun c e => ?_⟩
  · rw [upd_ne (ne_of_none h h1)]; exact a.rh c o h
  · obtain ⟨q1, q2⟩ := hid_some (a.fh c o h)
    rw [hid_ne q1, upd_ne (ne_of_none h h3)]; exact q2
  · have : c ≠ p := fun z => h2 (z ▸ e)
    obtain ⟨x, y, z, h, q⟩ := a.pot c e
    exact ⟨x, y, z, by rw [upd_ne this]; exact h, q⟩

/-! ### targets -/
/-- only the slots ts may change -/
def Only (ts : List Nat) (σ σ' : Sg) : Prop := σ'.length = σ.length ∧ ∀ j, j ∉ ts → σ'[j]? = σ[j]?
theorem Only.refl (ts : List Nat) (σ : Sg) : Only ts σ σ := ⟨rfl, fun _ _ => rfl⟩
theorem Only.trans {ts us : List Nat} {σ σ1 σ2 : Sg} (a : Only ts σ σ1) (b : Only us σ1 σ2) : Only (ts ++ us) σ σ2 :=
  ⟨b.1.trans a.1, fun j h => by rw [List.mem_append, not_or] at h; exact (b.2 j h.2).trans (a.2 j h.1)⟩
def lfg (X : Cx) (t : TX) (ts : List Nat) : TG := fun v σ H Q => ∃ B F ρ d ρ', Rp X.K B F σ H ρ ∧ Rv X.K F v d ∧ t d ρ = some ρ' ∧ ∀ σ', Rp X.K B F σ' H ρ' → Only ts σ σ' → Q σ' H
def TGt (X : Cx) (tg : Expr) (t : TX) (ts : List Nat) : Prop := PG X tg (lfg X t ts)
theorem PG.weak {X : Cx} {e : Expr} {t t' : TG} (h : PG X e t) (w : ∀ v σ H Q, t' v σ H Q → t v σ H Q) : PG X e t' := ⟨fun pins s σ H v u Q I r q => h.run pins s σ H v u Q I r (w _ _ _ _ q)⟩
theorem PGs.weak {X : Cx} {e : List Expr} {t t' : TGs} (h : PGs X e t) (w : ∀ v σ H Q, t' v σ H Q → t v σ H Q) : PGs X e t' := ⟨fun pins s σ H v u Q I r q => h.run pins s σ H v u Q I r (w _ _ _ _ q)⟩
section
variable {X : Cx} {pos : Pos}
theorem tg_name {i : Nat} {x : Str} (hN : X.N.Nodup) (hi : X.N[i]? = some x := by rfl) (hx : Loc X.env.scope x := by first | exact Or.inl rfl | exact Or.inr rfl) (hf : X.fn x = true ∨ X.env.scope.names.lookup x = some .local := by first | exact .inl rfl | exact .inr rfl | assumption) : TGt X (.Name x pos) (tName i) [i] := by
  refine PG.weak (pg_name hN hi hx hf) fun v σ H Q ⟨B, F, ρ, d, ρ', rp, rv, e, k⟩ => ?_
  have e' : (if i < ρ.length then some (ρ.set i (.fz d)) else none) = some ρ' := e
  by_cases hl : i < ρ.length
  · rw [if_pos hl] at e'
    cases e'
    exact k _ (rp.set (r := .val d) rp.fr.again rv rfl hl) ⟨by rw [List.length_set], fun j hj => by rw [List.getElem?_set_ne (fun z => hj (by simp [z]))]⟩
  · rw [if_neg hl] at e'; cases e'
def lfgs (X : Cx) (t : List D → Rho → Option Rho) (ts : List Nat) : TGs := fun vs σ H Q => ∃ B F ρ ds ρ', Rp X.K B F σ H ρ ∧ RvL X.K F vs ds ∧ t ds ρ = some ρ' ∧ ∀ σ', Rp X.K B F σ' H ρ' → Only ts σ σ' → Q σ' H
def TGs' (X : Cx) (es : List Expr) (t : List D → Rho → Option Rho) (ts : List Nat) : Prop := PGs X es (lfgs X t ts)
def tgNil : List D → Rho → Option Rho := fun ds ρ => match ds with
  | [] => some ρ
  | _ => none
def tgCons (t : TX) (r : List D → Rho → Option Rho) : List D → Rho → Option Rho := fun ds ρ => match ds with
  | d :: ds => (t d ρ).bind (r ds)
  | _ => none
def tgT (r : List D → Rho → Option Rho) : TX := fun d ρ => match d with
  | .tuple ds => r ds ρ
  | _ => none
theorem tgs_nil : TGs' X [] tgNil [] := by
  refine PGs.weak pgs_nil fun vs σ H Q ⟨B, F, ρ, ds, ρ', rp, rv, e, k⟩ => ?_
  cases rv with
  | nil => cases e; exact ⟨rfl, k σ rp (Only.refl _ _)⟩
  | cons h r => cases e
theorem tgs_cons {e : Expr} {es : List Expr} {t : TX} {r : List D → Rho → Option Rho} {ts us : List Nat} (h1 : TGt X e t ts) (h2 : TGs' X es r us)
    (hs : (assignEach (e :: es) X.env).map (·.2) = assign e X.env :: (assignEach es X.env).map (·.2) := by rfl) : TGs' X (e :: es) (tgCons t r) (ts ++ us) := by
  refine PGs.weak (pgs_cons h1 h2 hs) fun vs σ H Q ⟨B, F, ρ, ds, ρ', rp, rv, e, k⟩ => ?_
  cases rv with
  | nil => cases e
  | @cons v vs d ds h rv =>
    have e' : (t d ρ).bind (r ds) = some ρ' := e
    cases e1 : t d ρ with
    | none => rw [e1] at e'; cases e'
    | some ρ1 =>
      rw [e1] at e'
      exact ⟨v, vs, rfl, B, F, ρ, d, ρ1, rp, h, e1, fun σ1 rp1 o1 => ⟨B, F, ρ1, ds, ρ', rp1, rv, e', fun σ2 rp2 o2 => k σ2 rp2 (o1.trans o2)⟩⟩
theorem tg_tup {es : List Expr} {k n : Nat} {r : List D → Rho → Option Rho} {ts : List Nat} (hc : X.calm = true) (h : TGs' X es r ts) (hl : ∀ ds ρ ρ', r ds ρ = some ρ' → ds.length = n)
    (hn : (assignEach es X.env).length = n := by rfl) (hst : (assignEach es X.env).findIdx? (·.1) = none := by rfl) : TGt X (.Tuple es k pos) (tgT r) ts := by
  refine PG.weak (pg_tup hc h hn hst) fun v σ H Q ⟨B, F, ρ, d, ρ', rp, rv, e, kk⟩ => ?_
  cases d with
  | tuple ds =>
    cases rv with
    | tup h1 h2 z => exact ⟨_, _, rfl, SqT.of (rp.fr.fsame _ _ h1), by rw [h2.length]; exact hl ds ρ ρ' e, B, F, ρ, ds, ρ', rp, h2, e, kk⟩
  | _ => cases e
theorem tgl_nil : ∀ ds ρ ρ', tgNil ds ρ = some ρ' → ds.length = 0 := fun ds ρ ρ' e => by
  cases ds with
  | nil => rfl
  | cons => cases e
theorem tgl_cons {t : TX} {r : List D → Rho → Option Rho} {n : Nat} (h : ∀ ds ρ ρ', r ds ρ = some ρ' → ds.length = n) : ∀ ds ρ ρ', tgCons t r ds ρ = some ρ' → ds.length = n + 1 := fun ds ρ ρ' e => by
  cases ds with
  | nil => cases e
  | cons d ds =>
    have e' : (t d ρ).bind (r ds) = some ρ' := e
    cases e1 : t d ρ with
    | none => rw [e1] at e'; cases e'
    | some ρ1 => rw [e1] at e'; rw [List.length_cons, h ds ρ1 ρ' e']
end

/-! ### what is walked -/
/-- the heaps in which what is walked stands as it was -/
def stH (md : Bool) (B : Bs) (F2 H2 H' : Hp) : Prop := Same F2 H' ∧ if md = true then Same (hid H2 B.pt) H' else Same B.R H'
structure Wk (K : PySem.W.Frag) (pt : Option Addr) (F2 : Hp) (St : Hp → Prop) (J : It) (ds : List D) : Prop where
  w : ∃ (G : Hp → Prop) (Y : Nat → Hp → V → Hp → Prop), Walk J ds.length G Y ∧ (∀ H', St H' → G H') ∧
    ∀ i H' x H'' F', i < ds.length → Y i H' x H'' → St H' → Same F2 F' → Same F' (hid H' pt) → (∀ a, pt = some a → PotAt H' a) → ∃ F'' d, Fr pt F' (hid H' pt) F'' H'' ∧ ds[i]? = some d ∧ Rv K F'' x d
  z : ds.length ≤ sizeLine
def lfW (X : Cx) (md : Bool) (w : WX) : TI := fun σ H R => ∃ B F ρ Q', Rp X.K B F σ H ρ ∧ w ρ Q' ∧ ∀ J H2 F2 ds, Fr B.pt F (hid H B.pt) F2 H2 → Wk X.K B.pt F2 (stH md B F2 H2) J ds → Q' ds → R J H2
def WI (X : Cx) (md : Bool) (tg it : Expr) (w : WX) : Prop := PI X tg it (lfW X md w)
theorem PI.weak {X : Cx} {tg e : Expr} {t t' : TI} (h : PI X tg e t) (w : ∀ σ H Q, t' σ H Q → t σ H Q) : PI X tg e t' := ⟨fun pins s σ H R I q => h.run pins s σ H R I (w _ _ _ q)⟩
/-- what stays as it is through a loop -/
def Rr.stb (md : Bool) (ρ : Rho) (r : Rr) : Option D := match r with
  | .val d => some d
  | .fr o => some o
  | .al i => match ρ[i]? with
    | some (.rd d) => some d
    | some (.own o) => if md = true then some o else none
    | _ => none
  | .pot => none
def stv (md : Bool) (e : EX) : Rho → M D := fun ρ => bnd (e ρ) fun r => opt (r.stb md ρ)
/-- a list or a tuple at a, standing in the heaps St -/
def SeqAt' (St : Hp → Prop) (a : Addr) (xs : List V) : Prop := (∀ H', St H' → Rd H' a (.lst xs)) ∨ ∀ H', St H' → H' a = some (.tup xs)
def iSeq (K : PySem.W.Frag) (te : TE) : TI := fun σ H R => te σ H fun v H1 => ∃ a, v = .ref a ∧ (((∃ xs, SqL K H1 a xs) ∧ R (Itl K a) H1) ∨ ((∃ xs, SqT K H1 a xs) ∧ R (Itt K a) H1))
section
variable {X : Cx}
theorem pi_seq {tg l : Expr} {tl : TE} (hl : PE X l tl) : PI X tg l (iSeq X.K tl) := by
  refine ⟨fun pins s σ H R I h => ?_⟩
  refine L2.thn (hl.run pins s σ H _ I h) fun v s1 ⟨x, H1, I1, r1, q1⟩ => ?_
  obtain ⟨a, e, q⟩ := q1
  subst e
  cases r1
  rcases q with ⟨⟨xs, hq⟩, q⟩ | ⟨⟨xs, hq⟩, q⟩
  · obtain ⟨its, rv, p, hz⟩ := I1.list hq
    refine wpAny_pyIter_list p.isList ?_
    refine ⟨s1.heap.objs.size, [s1.heap.objs.size], _, _, H1, rfl, I1.kept (t' := s1.toks) fun b o e => Heap.get?_push_of_some _ e, turn_list a _, ⟨_, Heap.get?_push_size _ rfl, rfl, rfl⟩, fun b hb => ?_, q⟩
    have e : b = s1.heap.objs.size := by simpa using hb
    subst e
    exact I1.fpOk (Nat.le_refl _) (I1.hok.fresh (Nat.le_refl _))
  · obtain ⟨its, rv, p, hz⟩ := I1.tuple hq
    refine wpAny_pyIter_tuple (show s1.heap.IsTuple a its.toArray from p) ?_
    refine ⟨s1.heap.objs.size, [s1.heap.objs.size], _, _, H1, rfl, I1.kept (t' := s1.toks) fun b o e => Heap.get?_push_of_some _ e, turn_tuple a _, ⟨_, Heap.get?_push_size _ rfl, rfl, rfl⟩, fun b hb => ?_, q⟩
    have e : b = s1.heap.objs.size := by simpa using hb
    subst e
    exact I1.fpOk (Nat.le_refl _) (I1.hok.fresh (Nat.le_refl _))

end

/-- what is walked stands in the heaps St -/
def StbR (K : PySem.W.Frag) (F3 : Hp) (St : Hp → Prop) (v : V) : D → Prop
  | .list ds => ∃ a xs, v = .ref a ∧ (∀ H', St H' → SqL K H' a xs) ∧ RvL K F3 xs ds ∧ ds.length ≤ sizeLine
  | .tuple ds => ∃ a xs, v = .ref a ∧ F3 a = some (.tup xs) ∧ RvL K F3 xs ds ∧ ds.length ≤ sizeLine
  | _ => True
theorem StbR.mono {K : PySem.W.Frag} {F3 F4 : Hp} {St St' : Hp → Prop} {v : V} {d : D} (e : Same F3 F4) (h : ∀ H', St' H' → St H') (r : StbR K F3 St v d) : StbR K F4 St' v d := by
  cases d with
  | list ds => obtain ⟨a, xs, e1, h1, h2, z⟩ := r; exact ⟨a, xs, e1, fun H' q => h1 H' (h H' q), h2.mono e, z⟩
  | tuple ds => obtain ⟨a, xs, e1, h1, h2, z⟩ := r; exact ⟨a, xs, e1, e _ _ h1, h2.mono e, z⟩
  | _ => trivial
theorem StbR.of {K : PySem.W.Frag} {F3 : Hp} {St : Hp → Prop} {v : V} {d : D} (r : Rv K F3 v d) (h : ∀ H', St H' → Same F3 H') : StbR K F3 St v d := by
  cases r with
  | lst h1 h2 z => exact ⟨_, _, rfl, fun H' q => .inl (Same.rd (h H' q) h1), h2, z⟩
  | tup h1 h2 z => exact ⟨_, _, rfl, h1, h2, z⟩
  | _ => trivial
theorem StbR.top {K : PySem.W.Frag} {F3 G : Hp} {St : Hp → Prop} {v : V} {d : D} (r : TopR K F3 G v d) (h : ∀ H', St H' → Same G H') : StbR K F3 St v d := by
  cases d with
  | list ds => obtain ⟨a, xs, e1, h1, h2, z⟩ := r; exact ⟨a, xs, e1, fun H' q => Same.sq (h H' q) h1, h2, z⟩
  | tuple ds => cases (show Rv K F3 v (.tuple ds) from r) with | tup h1 h2 z => exact ⟨_, _, rfl, h1, h2, z⟩
  | _ => trivial
theorem RrR.stb {K : PySem.W.Frag} {B : Bs} {F F2 H H2 : Hp} {σ : Sg} {ρ : Rho} {v : V} {r : Rr} {d : D} {md : Bool} (rp : Rp K B F σ H ρ) (f : Fr B.pt F (hid H B.pt) F2 H2) (q : RrR K B.pt (hid H B.pt) F2 H2 σ ρ v r) (e : r.stb md ρ = some d) :
    ∃ F3, Fr B.pt F (hid H B.pt) F3 H2 ∧ Same F2 F3 ∧ StbR K F3 (stH md B F3 H2) v d := by
  cases r with
  | val d' => cases e; exact ⟨F2, f, Same.refl _, .of q fun H' h => h.1⟩
  | pot => cases e
  | fr o =>
    cases e
    obtain ⟨F3, g, rv, sm⟩ := RrR.fzn f (r := .fr d) q rfl
    exact ⟨F3, g, sm, .of rv fun H' h => h.1⟩
  | al i =>
    have rp2 := rp.fra f
    obtain ⟨e1, q⟩ := q
    rcases q with ⟨d', e2⟩ | ⟨o, e2⟩
    · have e3 : (Rr.al i).stb md ρ = some d' := by show (match ρ[i]? with | some (.rd d) => some d | some (.own o) => if md = true then some o else none | _ => none) = _; rw [e2]
      rw [e3] at e
      cases e
      obtain ⟨v', e4, h⟩ := rp2.sl i _ e2
      rw [e1] at e4
      cases e4
      refine ⟨F2, f, Same.refl _, StbR.top h fun H' hs => ?_⟩
      unfold stH at hs
      cases md with
      | true => exact fun a o ho => hs.2 a o (rp2.fr.rhid a o ho)
      | false => exact hs.2
    · have e3 : (Rr.al i).stb md ρ = if md = true then some o else none := by show (match ρ[i]? with | some (.rd d) => some d | some (.own o) => if md = true then some o else none | _ => none) = _; rw [e2]
      rw [e3] at e
      cases md with
      | false => cases e
      | true =>
        have e5 : o = d := Option.some.inj e
        subst e5
        obtain ⟨p, e4, h1, h2, h3, h4⟩ := rp2.sl i _ e2
        rw [e1] at e4
        cases e4
        refine ⟨F2, f, Same.refl _, StbR.top (h4.mono (G' := hid H2 B.pt) (Same.refl _) fun u hu => by rw [hid_ne h2]; exact hu).top fun H' hs => ?_⟩
        unfold stH at hs
        exact hs.2
theorem lft_st {X : Cx} {p : EX} {σ : Sg} {H : Hp} {Q : VK} {B : Bs} {F : Hp} {ρ : Rho} {Q' : D → Prop} {md : Bool} (rp : Rp X.K B F σ H ρ) (h : stv md p ρ Q')
    (k : ∀ v H1 F1 d, Fr B.pt F (hid H B.pt) F1 H1 → StbR X.K F1 (stH md B F1 H1) v d → Q' d → Q v H1) : lft X p σ H Q := by
  refine ⟨B, F, ρ, _, rp, h, fun v H2 F2 r f q q2 => ?_⟩
  obtain ⟨d, e, q3⟩ := opt_ok (f := ret) q2
  obtain ⟨F3, g, _, s⟩ := q.stb rp f e
  exact k v H2 F3 d g s q3
theorem stH_now {md : Bool} {B : Bs} {F F2 H H2 : Hp} {σ : Sg} {ρ : Rho} {K : PySem.W.Frag} (rp : Rp K B F σ H ρ) (f : Fr B.pt F (hid H B.pt) F2 H2) : stH md B F2 H2 H2 := by
  refine ⟨f.fsame, ?_⟩
  cases md with
  | true => exact hid_same
  | false => exact (rp.fr.trans f).rh
theorem yat {K : PySem.W.Frag} {pt : Option Addr} {F2 H' : Hp} {xs : List V} {ds : List D} (r : RvL K F2 xs ds) : ∀ i x H'' F', YAt xs i H' x H'' → Same F2 F' → Same F' (hid H' pt) → (∀ a, pt = some a → PotAt H' a) → ∃ F'' d, Fr pt F' (hid H' pt) F'' H'' ∧ ds[i]? = some d ∧ Rv K F'' x d := by
  rintro i x H'' F' ⟨e, hx⟩ sm hs hp
  subst e
  obtain ⟨d, e1, h1⟩ := r.at hx
  exact ⟨F', d, .refl hs hp, e1, h1.mono sm⟩
section
variable {X : Cx} {md : Bool}
def wSeq (md : Bool) (e : EX) : WX := fun ρ => bnd (stv md e ρ) fun x => opt (items x)
theorem w_seq {tg e : Expr} {p : EX} (he : PX X e p) : WI X md tg e (wSeq md p) := by
  refine PI.weak (pi_seq he) fun σ H R ⟨B, F, ρ, Q', rp, hp, k⟩ => ?_
  refine lft_st rp hp fun v H1 F1 d f s q => ?_
  obtain ⟨ds, e1, q⟩ := opt_ok (f := ret) q
  cases d with
  | list ds' =>
    have e2 : ds' = ds := Option.some.inj e1
    subst e2
    obtain ⟨a, xs, rfl, h1, h2, z⟩ := s
    have now := stH_now (md := md) rp f
    have hl := h2.length
    refine ⟨a, rfl, .inl ⟨⟨xs, (h1 H1 now)⟩, k _ H1 F1 ds' f ⟨⟨fun H' => SqL X.K H' a xs, YAt xs, by rw [← hl]; exact walk_list, fun H' q => (h1 H' q), fun i H' x H'' F' _ y _ sm hs hp => yat h2 i x H'' F' y sm hs hp⟩, z⟩ q⟩⟩
  | tuple ds' =>
    have e2 : ds' = ds := Option.some.inj e1
    subst e2
    obtain ⟨a, xs, rfl, h1, h2, z⟩ := s
    have hl := h2.length
    refine ⟨a, rfl, .inr ⟨⟨xs, SqT.of (f.fsame _ _ h1)⟩, k _ H1 F1 ds' f ⟨⟨fun H' => SqT X.K H' a xs, YAt xs, by rw [← hl]; exact walk_tup, fun H' q => SqT.of (q.1 _ _ h1), fun i H' x H'' F' _ y _ sm hs hp => yat h2 i x H'' F' y sm hs hp⟩, z⟩ q⟩⟩
  | _ => cases e1
theorem rng_len (lo hi : Int) : (rng lo hi).length = (hi - lo).toNat := by unfold rng; rw [List.length_map, List.length_range]
theorem rng_at {lo hi : Int} {i : Nat} (h : i < (hi - lo).toNat) : (rng lo hi)[i]? = some (.int (lo + (i : Nat))) := by unfold rng; simp [h]
theorem wk_rng {K : PySem.W.Frag} {pt : Option Addr} {F2 : Hp} {St : Hp → Prop} {lo hi : Int} (z : (hi - lo).toNat ≤ lim) : Wk K pt F2 St (Itr lo (hi - lo).toNat) (rng lo hi) := by
  refine ⟨⟨fun _ => True, YFn fun i => .int (lo + i), by rw [rng_len]; exact walk_range, fun _ _ => trivial, fun i H' x H'' F' hi y _ sm hs hp => ?_⟩, by rw [rng_len]; exact lim_line z⟩
  obtain ⟨e, ex⟩ := y
  subst e ex
  rw [rng_len] at hi
  exact ⟨F', _, .refl hs hp, rng_at hi, .int _⟩
def wRng1 (a : EX) : WX := fun ρ => bnd (rdv a ρ) fun x => match x with
  | .int j => if okRng 0 j = true then ret (rng 0 j) else fail
  | _ => fail
def wRng2 (a b : EX) : WX := fun ρ => bnd (rdv a ρ) fun x => bnd (rdv b ρ) fun y => match x, y with
  | .int i, .int j => if okRng i j = true then ret (rng i j) else fail
  | _, _ => fail
theorem okR {i j : Int} (h : okRng i j = true) : -(2 ^ 62) ≤ i ∧ i < 2 ^ 62 ∧ -(2 ^ 62) ≤ j ∧ j < 2 ^ 62 ∧ (j - i).toNat ≤ lim := by
  have := of_decide_eq_true h
  obtain ⟨h1, h2, h5⟩ := this
  exact ⟨by omega, by omega, by omega, by omega, h5⟩
theorem w_rng1 {tg a : Expr} {p pos : Pos} {pa : EX} (hm : X.mg "range" = none) (ha : PX X a pa) (hg : Gl X "range" := by (unfold L2.Gl; kernel_rfl)) (hs : starEach [a] X.env = [(false, eval a X.env)] := by rfl) : WI X md tg (.Call (.Name "range" p) [a] [] pos) (wRng1 pa) := by
  refine PI.weak (pi_range1 hg hm (pa_cons ha pa_nil hs) hs) fun σ H R ⟨B, F, ρ, Q', rp, hp, k⟩ => ?_
  refine lft_rd rp hp fun v H1 F1 d f t q => ?_
  cases d with
  | int j =>
    cases t with
    | int =>
      have q' : (if okRng 0 j = true then ret (rng 0 j) else fail : M (List D)) Q' := q
      by_cases c : okRng 0 j = true
      · rw [if_pos c] at q'
        obtain ⟨h1, h2, h3, h4, h5⟩ := okR c
        have w := wk_rng (K := X.K) (pt := B.pt) (F2 := F1) (St := stH md B F1 H1) h5
        rw [Int.sub_zero] at w
        exact ⟨j, rfl, h3, h4, k _ H1 F1 _ f w q'⟩
      · rw [if_neg c] at q'; exact q'.elim
  | _ => exact q.elim
theorem w_rng2 {tg a b : Expr} {p pos : Pos} {pa pb : EX} (hm : X.mg "range" = none) (ha : PX X a pa) (hb : PX X b pb) (hg : Gl X "range" := by (unfold L2.Gl; kernel_rfl)) (hs : starEach [a, b] X.env = [(false, eval a X.env), (false, eval b X.env)] := by rfl) (hs2 : starEach [b] X.env = [(false, eval b X.env)] := by rfl) :
    WI X md tg (.Call (.Name "range" p) [a, b] [] pos) (wRng2 pa pb) := by
  refine PI.weak (pi_range2 hg hm (pa_cons ha (pa_cons hb pa_nil hs2) (by rw [hs, hs2])) hs hs2) fun σ H R ⟨B, F, ρ, Q', rp, hp, k⟩ => ?_
  refine lft_rd rp hp fun v H1 F1 d f t q => ?_
  refine lft_rd (rp.fra f) q fun v2 H2 F2 d2 f2 t2 q2 => ?_
  cases d with
  | int i =>
    cases d2 with
    | int j =>
      cases t with
      | int =>
        cases t2 with
        | int =>
          have q' : (if okRng i j = true then ret (rng i j) else fail : M (List D)) Q' := q2
          by_cases c : okRng i j = true
          · rw [if_pos c] at q'
            obtain ⟨h1, h2, h3, h4, h5⟩ := okR c
            exact ⟨i, j, rfl, ⟨h1, h2, h3, h4⟩, k _ H2 F2 _ (f.trans f2) (wk_rng h5) q'⟩
          · rw [if_neg c] at q'; exact q'.elim
    | _ => exact q2.elim
  | _ => cases d2 <;> exact q2.elim
/-- pairs, each new -/
theorem ypair {K : PySem.W.Frag} {pt : Option Addr} {F2 H' : Hp} {xs ys : Nat → Option V} {ds : List D} (r : ∀ i x y, xs i = some x → ys i = some y → ∃ d e, ds[i]? = some (.tuple [d, e]) ∧ Rv K F2 x d ∧ Rv K F2 y e) :
    ∀ i x H'' F', YPair xs ys i H' x H'' → Same F2 F' → Same F' (hid H' pt) → (∀ a, pt = some a → PotAt H' a) → ∃ F'' d, Fr pt F' (hid H' pt) F'' H'' ∧ ds[i]? = some d ∧ Rv K F'' x d := by
  rintro i v H'' F' ⟨T, x, y, rfl, hT, rfl, hx, hy⟩ sm hs hp
  obtain ⟨d, e, h1, h2, h3⟩ := r i x y hx hy
  have f0 : Fr pt F' (hid H' pt) F' H' := .refl hs hp
  obtain ⟨g1, g2, g3⟩ := f0.fresh hT
  have g := (f0.new (u := .tup [x, y]) hT).grow g1 g2 g3 upd_same
  have sm2 : Same F' (upd F' T (.tup [x, y])) := fun c o h => by rw [upd_ne (ne_of_none h g3)]; exact h
  exact ⟨_, _, g, h1, .tup upd_same (.cons (h2.mono (sm.trans sm2)) (.cons (h3.mono (sm.trans sm2)) .nil)) (by show 2 ≤ sizeLine; decide)⟩
def zipD (xs ys : List D) : List D := (xs.zip ys).map fun p => .tuple [p.1, p.2]
def wZip (md : Bool) (a b : EX) : WX := fun ρ => bnd (stv md a ρ) fun x => bnd (stv md b ρ) fun y => match x, y with
  | .list xs, .list ys => ret (zipD xs ys)
  | .tuple xs, .tuple ys => ret (zipD xs ys)
  | _, _ => fail
theorem zip_len (xs ys : List D) : (zipD xs ys).length = min xs.length ys.length := by unfold zipD; rw [List.length_map, List.length_zip]
theorem zip_at {K : PySem.W.Frag} {F : Hp} {vs ws : List V} {xs ys : List D} (a : RvL K F vs xs) (b : RvL K F ws ys) : ∀ (i : Nat) x y, vs[i]? = some x → ws[i]? = some y → ∃ d e, (zipD xs ys)[i]? = some (.tuple [d, e]) ∧ Rv K F x d ∧ Rv K F y e := fun i x y hx hy => by
  obtain ⟨d, h1, h2⟩ := a.at hx
  obtain ⟨e, h3, h4⟩ := b.at hy
  refine ⟨d, e, ?_, h2, h4⟩
  unfold zipD
  rw [List.getElem?_map, show (xs.zip ys)[i]? = some (d, e) from List.getElem?_zip_eq_some.mpr ⟨h1, h3⟩]
  rfl
theorem stH_mono {md : Bool} {B : Bs} {F1 F2 H1 H2 H' : Hp} (e : Same F1 F2) (g : Same (hid H1 B.pt) (hid H2 B.pt)) (h : stH md B F2 H2 H') : stH md B F1 H1 H' := by
  refine ⟨e.trans h.1, ?_⟩
  cases md with
  | true => exact fun a o ho => h.2 a o (g a o ho)
  | false => exact h.2
theorem w_zip {elts : List Expr} {kk : Nat} {tpos p pos : Pos} {a b : Expr} {pa pb : EX} (hm : X.mg "zip" = none) (ha : PX X a pa) (hb : PX X b pb) (hg : Gl X "zip" := by (unfold L2.Gl; kernel_rfl)) (hs : starEach [a, b] X.env = (false, eval a X.env) :: starEach [b] X.env := by rfl)
    (hs2 : starEach [b] X.env = (false, eval b X.env) :: starEach [] X.env := by rfl) (hpl : (backTo pos (starEach [b] X.env)).any (·.1) = false := by rfl) : WI X md (.Tuple elts kk tpos) (.Call (.Name "zip" p) [a, b] [] pos) (wZip md pa pb) := by
  refine PI.weak (RZ.pi_zipA hg hm (pa_cons ha (pa_cons hb pa_nil hs2) hs) hs hpl) fun σ H R ⟨B, F, ρ, Q', rp, hp, k⟩ => ?_
  refine lft_st rp hp fun v H1 F1 d f s q => ?_
  refine lft_st (rp.fra f) q fun v2 H2 F2 d2 f2 s2 q2 => ?_
  have s' := s.mono (St' := stH md B F2 H2) f2.ff fun H' h => stH_mono f2.ff f2.rhid h
  have now := stH_now (md := md) rp (f.trans f2)
  cases d with
  | list xs =>
    cases d2 with
    | list ys =>
      obtain ⟨a, vs, rfl, h1, h2, z⟩ := s'
      obtain ⟨b, ws, rfl, h3, h4, z2⟩ := s2
      refine ⟨a, b, vs, ws, rfl, .inl ⟨(h1 H2 now), (h3 H2 now), k _ H2 F2 (zipD xs ys) (f.trans f2) ⟨⟨fun H' => SqL X.K H' a vs ∧ SqL X.K H' b ws, _, walk_zip (by rw [zip_len, h2.length, h4.length]), fun H' q => ⟨(h1 H' q), (h3 H' q)⟩, fun i H' x H'' F' _ y _ sm hs hp => ypair (zip_at h2 h4) i x H'' F' y sm hs hp⟩, ?_⟩ q2⟩⟩
      rw [zip_len]; omega
    | _ => exact q2.elim
  | tuple xs =>
    cases d2 with
    | tuple ys =>
      obtain ⟨a, vs, rfl, h1, h2, z⟩ := s'
      obtain ⟨b, ws, rfl, h3, h4, z2⟩ := s2
      have W : Walk (RZ.ItzT X.K a b) (zipD xs ys).length (fun H' => SqT X.K H' a vs ∧ SqT X.K H' b ws) (YPair (fun i => vs[i]?) (fun i => ws[i]?)) := by
        have hn : (zipD xs ys).length = min vs.length ws.length := by rw [zip_len, h2.length, h4.length]
        rw [hn]
        refine ⟨fun i _ hi q => ?_, fun _ q => ⟨vs, ws, q.1, q.2, by omega⟩, fun i H v H' _ q y => ?_⟩
        · have h1 : i < vs.length := by omega
          have h2 : i < ws.length := by omega
          exact ⟨vs, ws, vs[i], ws[i], q.1, q.2, by simp [h1], by simp [h2]⟩
        · obtain ⟨T, x, z, h1, h2, h3, h4, h5⟩ := y
          exact ⟨T, x, z, h1, h2, h3, h4 vs q.1, h5 ws q.2⟩
      refine ⟨a, b, vs, ws, rfl, .inr ⟨SqT.of (now.1 _ _ h1), SqT.of (now.1 _ _ h3), k _ H2 F2 (zipD xs ys) (f.trans f2) ⟨⟨_, _, W, fun H' q => ⟨SqT.of (q.1 _ _ h1), SqT.of (q.1 _ _ h3)⟩, fun i H' x H'' F' _ y _ sm hs hp => ypair (zip_at h2 h4) i x H'' F' y sm hs hp⟩, ?_⟩ q2⟩⟩
      rw [zip_len]; omega
    | _ => exact q2.elim
  | _ => cases d2 <;> exact q2.elim
end

/-! ### for -/
section
variable {X : Cx} {tg it : Expr} {body : List Stmt} {w : WX} {t : TX} {ts : List Nat} {b : SX} {pos : Pos}
theorem drop_at {α : Type} {l : List α} {i : Nat} {x : α} (h : l[i]? = some x) : l.drop i = x :: l.drop (i + 1) := by
  obtain ⟨h1, h2⟩ := List.getElem?_eq_some_iff.mp h
  rw [List.drop_eq_getElem_cons h1, h2]
theorem pp_for (hp : PassesOwn (model X.prog X.w) X.A X.env X.xe) (hc : X.calm = true) (hi : WI X false tg it w) (hg : TGt X tg t ts) (hb : PB X body b) (hs : ∀ x, foldedSetIterable it X.env x = pure x := by intro _; rfl) : PP X (.For tg it body [] pos) (sFor w t b) := by
  refine PS.weak (ps_for hp hc hi hg hb hs) fun D σ H ⟨B, F, ρ, Q', rp, hq, k1, k2, k3, k4⟩ => ?_
  refine ⟨B, F, ρ, _, rp, hq, fun J H2 F2 ds f wk q => ?_⟩
  obtain ⟨⟨G, Y, W, st, yl⟩, z⟩ := wk
  refine for_it W (fun i σ' H' => ∃ F' ρ', Rp X.K B F' σ' H' ρ' ∧ Same F2 F' ∧ forGo t b (ds.drop i) ρ' Q') ⟨F2, ρ, rp.fra f, Same.refl _, q⟩ (fun i σ' H' _ ⟨F', ρ', r', sm, _⟩ => st H' ⟨sm.trans r'.fr.fsame, r'.fr.rh⟩) ?_ ?_
  · rintro i x σ' H' H'' hi ⟨F', ρ', r', sm, q⟩ y
    obtain ⟨F'', d, g, e1, rv⟩ := yl i H' x H'' F' hi y ⟨sm.trans r'.fr.fsame, r'.fr.rh⟩ sm r'.fr.fh r'.fr.pot
    rw [drop_at e1] at q
    obtain ⟨ρ1, e2, q⟩ := opt_ok q
    refine ⟨B, F'', ρ', d, ρ1, r'.fra g, rv, e2, fun σ2 rp2 _ => ?_⟩
    have sm2 : Same F2 F'' := sm.trans g.ff
    exact ⟨B, F'', ρ1, _, rp2, q, fun σ3 H3 F3 ρ3 s3 rp3 q3 => ⟨F3, ρ3, rp3, sm2.trans s3, q3⟩, fun σ3 H3 F3 ρ3 s3 rp3 q3 => k1 σ3 H3 F3 ρ3 (f.ff.trans (sm2.trans s3)) rp3 q3, fun σ3 H3 F3 ρ3 s3 rp3 q3 => ⟨F3, ρ3, rp3, sm2.trans s3, q3⟩, fun v H3 F3 r f3 rr q3 => k4 v H3 F3 r f3 rr q3⟩
  · rintro σ' H' ⟨F', ρ', r', sm, q⟩
    rw [List.drop_length] at q
    exact k1 σ' H' F' ρ' (f.ff.trans sm) r' q
end
end PV

set_option Elab.async false
set_option linter.all false
set_option maxRecDepth 100000
set_option maxHeartbeats 1000000
/-! PvJ: comprehensions, while. -/
namespace PV
open PySem PySem.Spec L2

theorem walk_it {J : It} {n : Nat} {G : Hp → Prop} {Y : Nat → Hp → V → Hp → Prop} (w : Walk J n G Y) {S : (Hp → Prop) → V → Hp → Prop} {H : Hp} {Qd : Hp → Prop} (Pv : Nat → Hp → Prop) (h0 : Pv 0 H) (hG : ∀ i H, i ≤ n → Pv i H → G H)
    (hs : ∀ i x H H', i < n → Pv i H → Y i H x H' → S (Pv (i + 1)) x H') (hd : ∀ H, Pv n H → Qd H) :
    ∃ W : Nat → Nat → Hp → Prop, (∃ m, W 0 m H) ∧ ∀ i m H, W i m H → (J.stop i H ∧ Qd H) ∨ (J.go i H ∧ ∃ Nx : Hp → Prop, (∀ H', Nx H' → ∃ m', m' < m ∧ W (i + 1) m' H') ∧ ∀ x H', J.yld i H x H' → S Nx x H') := by
  refine ⟨fun i m H => m = n - i ∧ i ≤ n ∧ Pv i H, ⟨n, by simp, Nat.zero_le _, h0⟩, ?_⟩
  rintro i m H ⟨rfl, hi, p⟩
  have q := hG i H hi p
  by_cases hlt : i < n
  · exact .inr ⟨w.goes i H hlt q, Pv (i + 1), fun H' p' => ⟨n - (i + 1), by omega, rfl, hlt, p'⟩, fun x H' y => hs i x H H' hlt p (w.yields i H x H' hlt q y)⟩
  · have e : i = n := by omega
    subst e
    exact .inl ⟨w.stops H q, hd H p⟩

/-! ### slots forgotten -/
def uns : List Nat → Rho → Rho
  | [], ρ => ρ
  | v :: vs, ρ => (uns vs ρ).set v .un
def inb (vs : List Nat) (ρ : Rho) : Rho := uns vs (ρ.map Sl.inn)
theorem Rp.un1 {K : PySem.W.Frag} {B : Bs} {F H : Hp} {σ : Sg} {ρ : Rho} (rp : Rp K B F σ H ρ) (i : Nat) (x : Option V) : Rp K B F (σ.set i x) H (ρ.set i .un) := by
  refine ⟨rp.fr, by rw [List.length_set, List.length_set]; exact rp.len, fun j s e => ?_, fun j j' o o' p hne h1 h2 h3 => ?_⟩
  · by_cases hj : i = j
    · subst hj
      by_cases hl : i < ρ.length
      · rw [List.getElem?_set_self hl] at e; cases e; trivial
      · rw [List.getElem?_eq_none (by rw [List.length_set]; omega)] at e; cases e
    · rw [List.getElem?_set_ne hj] at e ⊢
      exact rp.sl j s e
  · have ne : ∀ k o, (ρ.set i Sl.un)[k]? = some (.own o) → i ≠ k := fun k o e hk => by
      subst hk
      by_cases hl : i < ρ.length
      · rw [List.getElem?_set_self hl] at e; cases e
      · rw [List.getElem?_eq_none (by rw [List.length_set]; omega)] at e; cases e
    have n1 := ne j o h1
    have n2 := ne j' o' h2
    rw [List.getElem?_set_ne n1] at h1 h3
    rw [List.getElem?_set_ne n2] at h2 ⊢
    exact rp.di j j' o o' p hne h1 h2 h3
theorem Rp.uns {K : PySem.W.Frag} {B : Bs} {F H : Hp} {σ : Sg} {ρ : Rho} (rp : Rp K B F σ H ρ) : ∀ vs : List Nat, Rp K B F (wipe σ vs) H (uns vs ρ)
  | [] => rp
  | v :: vs => (Rp.uns rp vs).un1 v none
theorem Rp.inn {K : PySem.W.Frag} {B : Bs} {F H : Hp} {σ : Sg} {ρ : Rho} (rp : Rp K B F σ H ρ) : Rp K ⟨F, hid H B.pt, B.pt⟩ F σ H (ρ.map Sl.inn) := by
  have no : ∀ (j : Nat) o, (ρ.map Sl.inn)[j]? ≠ some (.own o) := fun j o e => by
    rw [List.getElem?_map] at e
    cases c : ρ[j]? with
    | none => rw [c] at e; cases e
    | some s => rw [c] at e; cases s <;> cases e
  refine ⟨rp.fr.again, by rw [List.length_map]; exact rp.len, fun i s e => ?_, fun i j o o' p _ h1 => absurd h1 (no i o)⟩
  rw [List.getElem?_map] at e
  cases c : ρ[i]? with
  | none => rw [c] at e; cases e
  | some s0 =>
    rw [c] at e
    have q := rp.sl i s0 c
    cases s0 with
    | un => cases e; trivial
    | rd d => cases e; obtain ⟨v, e1, h⟩ := q; exact ⟨v, e1, h.mono (Same.refl _) rp.fr.rhid⟩
    | fz d => cases e; exact q
    | pot => cases e; exact q
    | own o => cases e; obtain ⟨p, e1, h1, h2, h3, h4⟩ := q; exact ⟨_, e1, (h4.mono (G' := hid H B.pt) (Same.refl _) fun u hu => by rw [hid_ne h2]; exact hu).top⟩
def Sl.noO : Sl → Sl
  | .own _ => .un
  | s => s
def inb2 (vs : List Nat) (ρ : Rho) : Rho := uns vs (ρ.map Sl.noO)
theorem noO_get {ρ : Rho} {j : Nat} {o : D} : (ρ.map Sl.noO)[j]? ≠ some (.own o) := fun e => by
  rw [List.getElem?_map] at e
  cases c : ρ[j]? with
  | none => rw [c] at e; cases e
  | some s => rw [c] at e; cases s <;> cases e
theorem Rp.noO {K : PySem.W.Frag} {B : Bs} {F H : Hp} {σ : Sg} {ρ : Rho} (rp : Rp K B F σ H ρ) : Rp K B F σ H (ρ.map Sl.noO) := by
  refine ⟨rp.fr, by rw [List.length_map]; exact rp.len, fun i s e => ?_, fun i j o o' p _ h1 => absurd h1 noO_get⟩
  rw [List.getElem?_map] at e
  cases c : ρ[i]? with
  | none => rw [c] at e; cases e
  | some s0 =>
    rw [c] at e
    have q := rp.sl i s0 c
    cases s0 with
    | own o => cases e; trivial
    | _ => cases e; exact q
theorem uns_own {j : Nat} {o : D} : ∀ {vs : List Nat} {ρ : Rho}, (uns vs ρ)[j]? = some (.own o) → ρ[j]? = some (.own o)
  | [], _, e => e
  | v :: vs, ρ, e => by
    have e' : ((uns vs ρ).set v .un)[j]? = some (.own o) := e
    by_cases h : v = j
    · subst h
      by_cases hl : v < (uns vs ρ).length
      · rw [List.getElem?_set_self hl] at e'; cases e'
      · rw [List.getElem?_eq_none (by rw [List.length_set]; omega)] at e'; cases e'
    · rw [List.getElem?_set_ne h] at e'
      exact uns_own e'
theorem Rp.free {K : PySem.W.Frag} {B : Bs} {F F2 H H2 : Hp} {σ : Sg} {ρ : Rho} (rp : Rp K B F σ H ρ) (no : ∀ (j : Nat) (o : D), ρ[j]? ≠ some (Sl.own o)) (f : Fr B.pt B.F0 B.R F2 H2) (sm : Same F F2) : Rp K B F2 σ H2 ρ := by
  refine ⟨f, rp.len, fun i s e => ?_, fun i j o o' p _ h1 => absurd h1 (no i o)⟩
  have q := rp.sl i s e
  cases s with
  | un => trivial
  | rd d => obtain ⟨v, e1, h⟩ := q; exact ⟨v, e1, h.mono sm (Same.refl _)⟩
  | fz d => obtain ⟨v, e1, h⟩ := q; exact ⟨v, e1, h.mono sm⟩
  | pot => exact q
  | own o => exact absurd e (no i o)
theorem wipe_get (σ : Sg) (j : Nat) : ∀ vs : List Nat, (wipe σ vs)[j]? = if j ∈ vs then (if j < σ.length then some none else none) else σ[j]?
  | [] => by simp [wipe]
  | v :: vs => by
    unfold wipe
    by_cases h : v = j
    · subst h
      rw [if_pos List.mem_cons_self]
      by_cases hl : v < σ.length
      · rw [if_pos hl, List.getElem?_set_self (by rw [wipe_length]; exact hl)]
      · rw [if_neg hl, List.getElem?_eq_none (by rw [List.length_set, wipe_length]; omega)]
    · rw [List.getElem?_set_ne h, wipe_get σ j vs]
      by_cases h2 : j ∈ vs
      · rw [if_pos h2, if_pos (List.mem_cons_of_mem _ h2)]
      · rw [if_neg h2, if_neg (by simp only [List.mem_cons, not_or]; exact ⟨fun z => h z.symm, h2⟩)]
theorem Only.wipe {ts vs : List Nat} {σ σ2 : Sg} (o : Only ts (L2.wipe σ vs) σ2) (h : ∀ j ∈ ts, j ∈ vs) : L2.wipe σ2 vs = L2.wipe σ vs := by
  apply List.ext_getElem?
  intro j
  have hl : σ2.length = σ.length := o.1.trans (wipe_length σ vs)
  rw [wipe_get, wipe_get, hl]
  by_cases c : j ∈ vs
  · rw [if_pos c, if_pos c]
  · rw [if_neg c, if_neg c, o.2 j fun z => c (h j z), wipe_get, if_neg c]

/-! ### a new list that grows -/
structure Ls (K : PySem.W.Frag) (pt : Option Addr) (F2 R : Hp) (D : Addr) (F H : Hp) (vs : List V) (acc : List PV.D) : Prop where
  fr : Fr pt F2 R F H
  np : pt ≠ some D
  rn : R D = none
  fn : F D = none
  hd : H D = some (.lst vs)
  rv : RvL K F vs acc
  z : acc.length ≤ sizeLine
theorem Ls.go {K : PySem.W.Frag} {pt : Option Addr} {F2 R F H F' H' : Hp} {D : Addr} {vs : List V} {acc : List PV.D} (l : Ls K pt F2 R D F H vs acc) (f : Fr pt F (hid H pt) F' H') : Ls K pt F2 R D F' H' vs acc := by
  have hh : hid H pt D = some (.lst vs) := by rw [hid_ne l.np]; exact l.hd
  refine ⟨l.fr.trans f, l.np, l.rn, ?_, f.rh D _ hh, l.rv.mono f.ff, l.z⟩
  rcases f.fn D (by rw [hh]; exact fun z => nomatch z) with q | ⟨xs, q⟩
  · rw [q]; exact l.fn
  · rw [hh] at q; cases q
theorem Ls.app {K : PySem.W.Frag} {pt : Option Addr} {F2 R F H : Hp} {D : Addr} {vs : List V} {acc : List PV.D} {v : V} {d : PV.D} (l : Ls K pt F2 R D F H vs acc) (r : Rv K F v d) (z : acc.length < lim) : Ls K pt F2 R D F (upd H D (.lst (vs ++ [v]))) (vs ++ [v]) (acc ++ [d]) :=
  ⟨l.fr.mut l.rn l.np l.fn, l.np, l.rn, l.fn, upd_same, l.rv.append (.cons r .nil), by rw [List.length_append]; exact lim_line z⟩
theorem Ls.new {K : PySem.W.Frag} {pt : Option Addr} {F2 H2 : Hp} {D : Addr} (f : Fr pt F2 (hid H2 pt) F2 H2) (h : H2 D = none) : Ls K pt F2 (hid H2 pt) D F2 (upd H2 D (.lst [])) [] [] := by
  obtain ⟨h1, h2, h3⟩ := f.fresh h
  exact ⟨f.new h, h2, h1, h3, upd_same, .nil, Nat.zero_le _⟩

/-! ### comprehensions -/
def wGo {A : Type} (tg : TX) (k : Rho → A → M A) (ρ : Rho) : List D → A → M A
  | [], acc => ret acc
  | x :: xs, acc => bnd (opt (tg x ρ)) fun ρ1 => bnd (k ρ1 acc) fun acc' => wGo tg k ρ xs acc'
def k1 (t : Rho → M Bool) (e : EX) : Rho → List D → M (List D) := fun ρ acc => bnd (t ρ) fun b => if b = true then bnd (fzv e ρ) fun y => (if acc.length < lim then ret (acc ++ [y]) else fail) else ret acc
def k2 {A : Type} (t : Rho → M Bool) (w1 : WX) (tg1 : TX) (vs1 : List Nat) (k : Rho → A → M A) : Rho → A → M A := fun ρ acc => bnd (t ρ) fun b => if b = true then bnd (w1 ρ) fun ys => wGo tg1 k (inb2 vs1 ρ) ys acc else ret acc
def lcE (w : WX) (tg : TX) (k : Rho → List D → M (List D)) (vs : List Nat) : EX := fun ρ => bnd (w ρ) fun xs => bnd (wGo tg k (inb vs ρ) xs []) fun ys => ret (.fr (.list ys))
def PTS (X : Cx) (ifs : List Expr) (t : Rho → M Bool) : Prop := PTs X ifs (lfT X t)
theorem PTs.weak {X : Cx} {e : List Expr} {t t' : TT} (h : PTs X e t) (w : ∀ σ H Q, t' σ H Q → t σ H Q) : PTs X e t' := ⟨fun pins s σ H Q I q => h.run pins s σ H Q I (w _ _ _ q)⟩
section
variable {X : Cx} {pos spos : Pos}
theorem pts_no : PTS X [] yes := PTs.weak pts_nil fun σ H Q ⟨B, F, ρ, Q', rp, hp, k⟩ => k true H F rp.fr.again hp
theorem pts_1 {c : Expr} {t : Rho → M Bool} (h : PTt X c t) : PTS X [c] t := pts_one h
/-- a block of a comprehension: what holds of an expression in it, wherever the block stands -/
abbrev Blk (X : Cx) (scope : Scope) (P : Cx → Prop) : Prop := ∀ (s : Shared) (H : Hp) (C : Addr) (cl : List (Str × Addr)) (fp : List Addr), P (X.blk s H scope (compEnvC scope cl C X.env) fp)
variable {elt tg iter : Expr} {ifs : List Expr} {scope : Scope} {own : List (Str × Nat)} {w : WX} {t : TX} {ts : List Nat} {tt : Rho → M Bool} {p : EX}
theorem lc1_c {vs0 : List Nat} (hs : ∀ j ∈ ts, j ∈ vs0) {σ : Sg} {H : Hp} {Q : VK} {B : Bs} {F : Hp} {ρ : Rho} {Q' : Rr → Prop} {J : It} {H2 F2 : Hp} {ds : List D} {D : Addr} (rp : Rp X.K B F σ H ρ) (f : Fr B.pt F (hid H B.pt) F2 H2) (wk : Wk X.K B.pt F2 (stH true B F2 H2) J ds)
    (q0 : wGo t (k1 tt p) (inb vs0 ρ) ds [] fun ys => Q' (.fr (.list ys))) (hD : H2 D = none) (k : Kt X B.pt F (hid H B.pt) σ ρ Q' Q) :
    ∃ W : Nat → Nat → Hp → Prop, (∃ m, W 0 m (upd H2 D (.lst []))) ∧ ∀ i m H, W i m H →
      (J.stop i H ∧ Q (.ref D) H) ∨ (J.go i H ∧ ∃ Nx : Hp → Prop, (∀ H', Nx H' → ∃ m', m' < m ∧ W (i + 1) m' H') ∧ ∀ x H', J.yld i H x H' → lfg X t ts x (wipe σ vs0) H' fun σ2 H2 => wipe σ2 vs0 = wipe σ vs0 ∧ lfT X tt σ2 H2 fun b H3 =>
        if b = true then lft X p σ2 H3 fun y H4 => ∃ acc, H4 D = some (.lst acc) ∧ acc.length < sizeLine ∧ Nx (upd H4 D (.lst (acc ++ [y]))) else Nx H3) := by
  obtain ⟨⟨G, Y, W, st, yl⟩, z⟩ := wk
  have rp2 := rp.fra f
  have rp0 := rp2.inn.uns vs0
  refine walk_it W (S := fun Nx x H' => lfg X t ts x (wipe σ vs0) H' fun σ2 H2 => wipe σ2 vs0 = wipe σ vs0 ∧ lfT X tt σ2 H2 fun b H3 =>
      if b = true then lft X p σ2 H3 fun y H4 => ∃ acc, H4 D = some (.lst acc) ∧ acc.length < sizeLine ∧ Nx (upd H4 D (.lst (acc ++ [y]))) else Nx H3)
    (fun i H' => ∃ F' vs acc, Ls X.K B.pt F2 (hid H2 B.pt) D F' H' vs acc ∧ wGo t (k1 tt p) (inb vs0 ρ) (ds.drop i) acc fun ys => Q' (.fr (.list ys)))
    ⟨F2, [], [], .new rp2.fr.again hD, q0⟩ (fun i H' _ ⟨F', vs, acc, l, _⟩ => st H' ⟨l.fr.ff.trans l.fr.fsame, l.fr.rh⟩) ?_ ?_
  · rintro i x H' H'' hi ⟨F', vs, acc, l, q⟩ y
    obtain ⟨F'', d, g, e1, rv⟩ := yl i H' x H'' F' hi y ⟨l.fr.ff.trans l.fr.fsame, l.fr.rh⟩ l.fr.ff l.fr.fh l.fr.pot
    rw [drop_at e1] at q
    obtain ⟨ρ1, e2, q⟩ := opt_ok q
    have l2 := l.go g
    refine ⟨_, F'', _, d, ρ1, rp0.fra l2.fr, rv, e2, fun σ2 r2 on => ⟨on.wipe hs, lfT_of r2 q fun b H3 F3 f3 q3 => ?_⟩⟩
    have l3 := l2.go f3
    cases b with
    | false => exact ⟨F3, vs, acc, l3, q3⟩
    | true =>
      rw [if_pos rfl]
      refine lft_fz (r2.fra f3) q3 fun v H4 F4 d4 f4 rv4 q4 => ?_
      have q5 : (if acc.length < lim then ret (acc ++ [d4]) else fail : M (List PV.D)) (fun acc' => wGo t (k1 tt p) (inb vs0 ρ) (ds.drop (i + 1)) acc' fun ys => Q' (.fr (.list ys))) := q4
      by_cases hz : acc.length < lim
      · rw [if_pos hz] at q5
        have l4 := l3.go f4
        exact ⟨vs, l4.hd, by rw [l4.rv.length, sizeLine_eq]; exact hz, F4, _, _, l4.app rv4 hz, q5⟩
      · rw [if_neg hz] at q5; exact q5.elim
  · rintro H' ⟨F', vs, acc, l, q⟩
    rw [List.drop_length] at q
    refine k _ H' F' (.fr (.list acc)) (f.trans l.fr) ⟨D, rfl, ?_, l.np, l.fn, vs, l.hd, l.rv, l.z⟩ q
    cases c : hid H B.pt D with
    | none => rfl
    | some u => rw [f.rh D u c] at hD; cases hD
theorem lc1_w {vs0 : List Nat} (hs : ∀ j ∈ ts, j ∈ vs0) {σ : Sg} {H : Hp} {Q : VK} (q : lft X (lcE w t (k1 tt p) vs0) σ H Q) : tLc (lfW X true w) (lfg X t ts) (lfT X tt) (lft X p) vs0 σ H Q := by
  obtain ⟨B, F, ρ, Q', rp, hq, k⟩ := q
  exact ⟨B, F, ρ, _, rp, hq, fun J H2 F2 ds f wk q D hD => lc1_c hs rp f wk q hD k⟩
/-- the inner loop of two clauses -/
theorem lc2_w {w1 : WX} {t1 : TX} {ts1 : List Nat} {tt1 : Rho → M Bool} {vs0 vs1 : List Nat} (hs : ∀ j ∈ ts, j ∈ vs0) (hs1 : ∀ j ∈ ts1, j ∈ vs1) {σ : Sg} {H : Hp} {Q : VK} (q : lft X (lcE w t (k2 tt w1 t1 vs1 (k1 tt1 p)) vs0) σ H Q) :
    tLc2 (lfW X true w) (lfg X t ts) (lfT X tt) (lfW X false w1) (lfg X t1 ts1) (lfT X tt1) (lft X p) vs0 vs1 σ H Q := by
  obtain ⟨B, F, ρ, Q', rp, hq, k⟩ := q
  refine ⟨B, F, ρ, _, rp, hq, fun J H2 F2 ds f wk q D hD => ?_⟩
  obtain ⟨⟨G, Y, W, st, yl⟩, z⟩ := wk
  have rp2 := rp.fra f
  have rp0 := rp2.inn.uns vs0
  have q0 : wGo t (k2 tt w1 t1 vs1 (k1 tt1 p)) (inb vs0 ρ) ds [] fun ys => Q' (.fr (.list ys)) := q
  refine walk_it W (S := fun Nx x H' => lfg X t ts x (wipe σ vs0) H' fun σ2 H2 => wipe σ2 vs0 = wipe σ vs0 ∧ lfT X tt σ2 H2 fun b H3 =>
      if b = true then lfW X false w1 σ2 H3 fun J1 H4 => ∃ W1 : Nat → Nat → Hp → Prop, (∃ m, W1 0 m H4) ∧ ∀ j k H, W1 j k H →
      (J1.stop j H ∧ Nx H) ∨ (J1.go j H ∧ ∃ Nx1 : Hp → Prop, (∀ H', Nx1 H' → ∃ k', k' < k ∧ W1 (j + 1) k' H') ∧ ∀ x H', J1.yld j H x H' → lfg X t1 ts1 x (wipe σ2 vs1) H' fun σ3 H5 => wipe σ3 vs1 = wipe σ2 vs1 ∧ lfT X tt1 σ3 H5 fun b H6 =>
        if b = true then lft X p σ3 H6 fun y H7 => ∃ acc, H7 D = some (.lst acc) ∧ acc.length < sizeLine ∧ Nx1 (upd H7 D (.lst (acc ++ [y]))) else Nx1 H6)
    else Nx H3)
    (fun i H' => ∃ F' vs acc, Ls X.K B.pt F2 (hid H2 B.pt) D F' H' vs acc ∧ wGo t (k2 tt w1 t1 vs1 (k1 tt1 p)) (inb vs0 ρ) (ds.drop i) acc fun ys => Q' (.fr (.list ys)))
    ⟨F2, [], [], .new rp2.fr.again hD, q0⟩ (fun i H' _ ⟨F', vs, acc, l, _⟩ => st H' ⟨l.fr.ff.trans l.fr.fsame, l.fr.rh⟩) ?_ ?_
  · rintro i x H' H'' hi ⟨F', vs, acc, l, q⟩ y
    obtain ⟨F'', d, g, e1, rv⟩ := yl i H' x H'' F' hi y ⟨l.fr.ff.trans l.fr.fsame, l.fr.rh⟩ l.fr.ff l.fr.fh l.fr.pot
    rw [drop_at e1] at q
    obtain ⟨ρ1, e2, q⟩ := opt_ok q
    have l2 := l.go g
    refine ⟨_, F'', _, d, ρ1, rp0.fra l2.fr, rv, e2, fun σ2 r2 on => ⟨on.wipe hs, lfT_of r2 q fun b H3 F3 f3 q3 => ?_⟩⟩
    have l3 := l2.go f3
    cases b with
    | false => exact ⟨F3, vs, acc, l3, q3⟩
    | true =>
      rw [if_pos rfl]
      refine ⟨_, F3, ρ1, _, r2.fra f3, q3, fun J1 H4 F4 ys f4 wk4 q4 => ?_⟩
      obtain ⟨⟨G4, Y4, W4, st4, yl4⟩, z4⟩ := wk4
      have l4 := l3.go f4
      have r4 := ((r2.fra f3).fra f4).noO.uns vs1
      have q4' : wGo t1 (k1 tt1 p) (inb2 vs1 ρ1) ys acc fun acc' => wGo t (k2 tt w1 t1 vs1 (k1 tt1 p)) (inb vs0 ρ) (ds.drop (i + 1)) acc' fun ys => Q' (.fr (.list ys)) := q4
      refine walk_it W4 (S := fun Nx1 x H' => lfg X t1 ts1 x (wipe σ2 vs1) H' fun σ3 H5 => wipe σ3 vs1 = wipe σ2 vs1 ∧ lfT X tt1 σ3 H5 fun b H6 =>
        if b = true then lft X p σ3 H6 fun y H7 => ∃ acc, H7 D = some (.lst acc) ∧ acc.length < sizeLine ∧ Nx1 (upd H7 D (.lst (acc ++ [y]))) else Nx1 H6)
        (fun j H' => ∃ F' vs acc, Ls X.K B.pt F2 (hid H2 B.pt) D F' H' vs acc ∧ Same F4 F' ∧ wGo t1 (k1 tt1 p) (inb2 vs1 ρ1) (ys.drop j) acc fun acc' => wGo t (k2 tt w1 t1 vs1 (k1 tt1 p)) (inb vs0 ρ) (ds.drop (i + 1)) acc' fun ys => Q' (.fr (.list ys)))
        ⟨F4, vs, acc, l4, Same.refl _, q4'⟩ (fun j H' _ ⟨F', vs, acc, l, sm, _⟩ => st4 H' ⟨sm.trans l.fr.fsame, l.fr.rh⟩) ?_ ?_
      · rintro j x H' H'' hj ⟨F', vs, acc, l, sm, q⟩ y
        obtain ⟨F'', d, g, e1, rv⟩ := yl4 j H' x H'' F' hj y ⟨sm.trans l.fr.fsame, l.fr.rh⟩ sm l.fr.fh l.fr.pot
        rw [drop_at e1] at q
        obtain ⟨ρ2, e2, q⟩ := opt_ok q
        have l2 := l.go g
        have r5 := r4.free (fun j o e => noO_get (uns_own e)) l2.fr (sm.trans g.ff)
        refine ⟨_, F'', _, d, ρ2, r5, rv, e2, fun σ3 r6 on => ⟨on.wipe hs1, lfT_of r6 q fun b H5 F5 f5 q5 => ?_⟩⟩
        have l5 := l2.go f5
        cases b with
        | false => exact ⟨F5, vs, acc, l5, sm.trans (g.ff.trans f5.ff), q5⟩
        | true =>
          rw [if_pos rfl]
          refine lft_fz (r6.fra f5) q5 fun v H6 F6 d6 f6 rv6 q6 => ?_
          have q7 : (if acc.length < lim then ret (acc ++ [d6]) else fail : M (List PV.D)) (fun acc' => wGo t1 (k1 tt1 p) (inb2 vs1 ρ1) (ys.drop (j + 1)) acc' fun acc' => wGo t (k2 tt w1 t1 vs1 (k1 tt1 p)) (inb vs0 ρ) (ds.drop (i + 1)) acc' fun ys => Q' (.fr (.list ys))) := q6
          by_cases hz : acc.length < lim
          · rw [if_pos hz] at q7
            have l6 := l5.go f6
            exact ⟨vs, l6.hd, by rw [l6.rv.length, sizeLine_eq]; exact hz, F6, _, _, l6.app rv6 hz, sm.trans (g.ff.trans (f5.ff.trans f6.ff)), q7⟩
          · rw [if_neg hz] at q7; exact q7.elim
      · rintro H' ⟨F', vs, acc, l, sm, q⟩
        rw [List.drop_length] at q
        exact ⟨F', vs, acc, l, q⟩
  · rintro H' ⟨F', vs, acc, l, q⟩
    rw [List.drop_length] at q
    refine k _ H' F' (.fr (.list acc)) (f.trans l.fr) ⟨D, rfl, ?_, l.np, l.fn, vs, l.hd, l.rv, l.z⟩ q
    cases c : hid H B.pt D with
    | none => rfl
    | some u => rw [f.rh D u c] at hD; cases hD
theorem px_lc (hc : X.calm = true) (hN : X.N.Nodup) (hi : WI X true tg iter w) (ok : BlkOk X.N X.env.scope scope own) (hg : Blk X scope fun X => TGt X tg t ts) (ht : Blk X scope fun X => PTS X ifs tt) (he : Blk X scope fun X => PX X elt p)
    (hs : ∀ x, foldedSetIterable iter X.env x = pure x := by intro _; rfl) (hsub : ∀ j ∈ ts, j ∈ own.map (·.2) := by decide) : PX X (.ListComp elt [⟨tg, iter, ifs, 0⟩] scope pos) (lcE w t (k1 tt p) (own.map (·.2))) :=
  PE.weak (pe_lc (g := lfg X t ts) (tt := lfT X tt) (te := lft X p) hc hN hi ok hg ht he hs) fun σ H Q q => lc1_w hsub q
variable {tg1 iter1 : Expr} {ifs1 : List Expr} {w1 : WX} {t1 : TX} {ts1 : List Nat} {tt1 : Rho → M Bool} {vs1 : List Nat}
theorem px_lc2 (hc : X.calm = true) (hN : X.N.Nodup) (hi : WI X true tg iter w) (ok : BlkOk X.N X.env.scope scope own) (hv : ∀ i ∈ vs1, i ∈ own.map (·.2)) (hg : Blk X scope fun X => TGt X tg t ts) (ht : Blk X scope fun X => PTS X ifs tt) (hi1 : Blk X scope fun X => WI X false tg1 iter1 w1)
    (hg1 : Blk X scope fun X => TGt X tg1 t1 ts1) (ht1 : Blk X scope fun X => PTS X ifs1 tt1) (he : Blk X scope fun X => PX X elt p)
    (hs : ∀ x, foldedSetIterable iter X.env x = pure x := by intro _; rfl) (hs1 : ∀ env x, foldedSetIterable iter1 env x = pure x := by intro _ _; rfl) (hsub : ∀ j ∈ ts, j ∈ own.map (·.2) := by decide) (hsub1 : ∀ j ∈ ts1, j ∈ vs1 := by decide) :
    PX X (.ListComp elt [⟨tg, iter, ifs, 0⟩, ⟨tg1, iter1, ifs1, 0⟩] scope pos) (lcE w t (k2 tt w1 t1 vs1 (k1 tt1 p)) (own.map (·.2))) :=
  PE.weak (pe_lc2 (g := lfg X t ts) (tt := lfT X tt) (te := lft X p) (wi1 := lfW X false w1) (g1 := lfg X t1 ts1) (tt1 := lfT X tt1) hc hN hi ok hv hg ht hi1 hg1 ht1 he hs hs1) fun σ H Q q => lc2_w hsub hsub1 q
theorem lft_set {i : Nat} {D : Ends} {σ : Sg} {H : Hp} {p : EX} (q : lfS X (sSet i p) D σ H) : tAsg (lft X p) (gName i) D σ H := by
  obtain ⟨B, F, ρ, Q', rp, hq, k1, k2, k3, k4⟩ := q
  refine ⟨B, F, ρ, _, rp, hq, fun v H1 F1 r f q q2 => ?_⟩
  obtain ⟨s, e1, q3⟩ := opt_ok q2
  by_cases hl : i < ρ.length
  · rw [if_pos hl] at q3
    exact k1 _ H1 F1 _ f.ff (rp.set f q e1 hl) q3
  · rw [if_neg hl] at q3; exact q3.elim
/-- name = [..] on one line -/
theorem pp_setLc {i : Nat} {y : Str} {py : Pos} (hc : X.calm = true) (hN : X.N.Nodup) (hi : WI X true tg iter w) (ok : BlkOk X.N X.env.scope scope own) (hg : Blk X scope fun X => TGt X tg t ts) (ht : Blk X scope fun X => PTS X ifs tt) (he : Blk X scope fun X => PX X elt p)
    (hy : X.N[i]? = some y := by rfl) (hyl : X.env.scope.names.lookup y = some .local := by kernel_rfl) (hsw : swapsWith (.ListComp elt [⟨tg, iter, ifs, 0⟩] scope pos) (some (.Name y py)) spos.line X.env = pure true := by kernel_rfl)
    (hs : ∀ x, foldedSetIterable iter X.env x = pure x := by intro _; rfl) (hsub : ∀ j ∈ ts, j ∈ own.map (·.2) := by decide) : PP X (.Assign [.Name y py] (.ListComp elt [⟨tg, iter, ifs, 0⟩] scope pos) spos) (sSet i (lcE w t (k1 tt p) (own.map (·.2)))) :=
  PS.weak (ps_setLc (g := lfg X t ts) (tt := lfT X tt) (te := lft X p) hc hN hy hyl hsw hi ok hg ht he hs) fun D σ H q => by
    obtain ⟨B, F, ρ, Q', rp, hq, k1, k2, k3, k4⟩ := q
    refine lc1_w hsub ⟨B, F, ρ, _, rp, hq, fun v H1 F1 r f q q2 => ?_⟩
    obtain ⟨s, e1, q3⟩ := opt_ok q2
    by_cases hl : i < ρ.length
    · rw [if_pos hl] at q3
      exact k1 _ H1 F1 _ f.ff (rp.set f q e1 hl) q3
    · rw [if_neg hl] at q3; exact q3.elim
theorem pp_setLc2 {i : Nat} {y : Str} {py : Pos} (hc : X.calm = true) (hN : X.N.Nodup) (hi : WI X true tg iter w) (ok : BlkOk X.N X.env.scope scope own) (hv : ∀ i ∈ vs1, i ∈ own.map (·.2)) (hg : Blk X scope fun X => TGt X tg t ts) (ht : Blk X scope fun X => PTS X ifs tt) (hi1 : Blk X scope fun X => WI X false tg1 iter1 w1)
    (hg1 : Blk X scope fun X => TGt X tg1 t1 ts1) (ht1 : Blk X scope fun X => PTS X ifs1 tt1) (he : Blk X scope fun X => PX X elt p)
    (hy : X.N[i]? = some y := by rfl) (hyl : X.env.scope.names.lookup y = some .local := by kernel_rfl) (hsw : swapsWith (.ListComp elt [⟨tg, iter, ifs, 0⟩, ⟨tg1, iter1, ifs1, 0⟩] scope pos) (some (.Name y py)) spos.line X.env = pure true := by kernel_rfl)
    (hs : ∀ x, foldedSetIterable iter X.env x = pure x := by intro _; rfl) (hs1 : ∀ env x, foldedSetIterable iter1 env x = pure x := by intro _ _; rfl) (hsub : ∀ j ∈ ts, j ∈ own.map (·.2) := by decide) (hsub1 : ∀ j ∈ ts1, j ∈ vs1 := by decide) :
    PP X (.Assign [.Name y py] (.ListComp elt [⟨tg, iter, ifs, 0⟩, ⟨tg1, iter1, ifs1, 0⟩] scope pos) spos) (sSet i (lcE w t (k2 tt w1 t1 vs1 (k1 tt1 p)) (own.map (·.2)))) :=
  PS.weak (ps_setLc2 (g := lfg X t ts) (tt := lfT X tt) (te := lft X p) (wi1 := lfW X false w1) (g1 := lfg X t1 ts1) (tt1 := lfT X tt1) hc hN hy hyl hsw hi ok hv hg ht hi1 hg1 ht1 he hs hs1) fun D σ H q => by
    obtain ⟨B, F, ρ, Q', rp, hq, k1, k2, k3, k4⟩ := q
    refine lc2_w hsub hsub1 ⟨B, F, ρ, _, rp, hq, fun v H1 F1 r f q q2 => ?_⟩
    obtain ⟨s, e1, q3⟩ := opt_ok q2
    by_cases hl : i < ρ.length
    · rw [if_pos hl] at q3
      exact k1 _ H1 F1 _ f.ff (rp.set f q e1 hl) q3
    · rw [if_neg hl] at q3; exact q3.elim
end

/-! ### while -/
theorem pp_while {X : Cx} {pos : Pos} {c : Expr} {body : List Stmt} {t : Rho → M Bool} {b : SX} (hp : PassesOwn (model X.prog X.w) X.A X.env X.xe) (hc : PTt X c t) (hb : PB X body b) : PP X (.While c body [] pos) (sWhile t b) := by
  refine PS.weak (ps_while hp hc hb) fun D σ H ⟨B, F, ρ, Q', rp, ⟨n, hq⟩, k1, k2, k3, k4⟩ => ?_
  refine ⟨fun m σ' H' => ∃ F' ρ', Same F F' ∧ Rp X.K B F' σ' H' ρ' ∧ whileGo t b m ρ' Q', ⟨n, F, ρ, Same.refl _, rp, hq⟩, ?_⟩
  rintro m σ' H' ⟨F', ρ', sm, r', q⟩
  cases m with
  | zero => exact q.elim
  | succ m =>
    refine lfT_of r' q fun b H1 F1 f q => ?_
    cases b with
    | false => exact k1 _ _ F1 _ (sm.trans f.ff) (r'.fra f) q
    | true =>
      rw [if_pos rfl]
      refine ⟨fun σ' H' => ∃ F' ρ', Same F F' ∧ Rp X.K B F' σ' H' ρ' ∧ whileGo t b m ρ' Q', fun σ' H' w => ⟨m, Nat.lt_succ_self _, w⟩, ?_⟩
      have s1 : Same F F1 := sm.trans f.ff
      exact ⟨B, F1, ρ', _, r'.fra f, q, fun σ3 H3 F3 ρ3 s3 rp3 q3 => ⟨F3, ρ3, s1.trans s3, rp3, q3⟩, fun σ3 H3 F3 ρ3 s3 rp3 q3 => k1 σ3 H3 F3 ρ3 (s1.trans s3) rp3 q3, fun σ3 H3 F3 ρ3 s3 rp3 q3 => ⟨F3, ρ3, s1.trans s3, rp3, q3⟩, fun v H3 F3 r f3 rr q3 => k4 v H3 F3 r f3 rr q3⟩
end PV

set_option Elab.async false
set_option linter.all false
set_option maxRecDepth 100000
set_option maxHeartbeats 1000000
/-! PvK: what changes a thing of one's own; assignments of several names. -/
namespace PV
open PySem PySem.Spec L2

theorem Rp.mut {K : PySem.W.Frag} {B : Bs} {F H : Hp} {σ : Sg} {ρ : Rho} {i : Nat} {o o' : D} {p : Addr} {u : HO} (rp : Rp K B F σ H ρ) (hi : ρ[i]? = some (.own o)) (hp : σ[i]? = some (some (.ref p))) (h : ObR K F (upd H p u) p o') :
    Rp K B F σ (upd H p u) (ρ.set i (.own o')) := by
  obtain ⟨p', e1, h1, h2, h3, h4⟩ := rp.sl i _ hi
  rw [hp] at e1
  cases e1
  have hl : i < ρ.length := (List.getElem?_eq_some_iff.mp hi).1
  refine ⟨rp.fr.mut h1 h2 h3, by rw [List.length_set]; exact rp.len, fun j s e => ?_, fun j j' a b q hne g1 g2 g3 => ?_⟩
  · by_cases hj : i = j
    · subst hj
      rw [List.getElem?_set_self hl] at e
      cases e
      exact ⟨p, hp, h1, h2, h3, h⟩
    · rw [List.getElem?_set_ne hj] at e
      have q := rp.sl j s e
      cases s with
      | own o2 =>
        obtain ⟨p2, k1, k2, k3, k4, k5⟩ := q
        have ne : p2 ≠ p := fun z => by subst z; exact rp.di i j o o2 p2 hj hi e hp k1
        exact ⟨p2, k1, k2, k3, k4, k5.mono (Same.refl _) fun u' hu' => by rw [upd_ne ne]; exact hu'⟩
      | _ => exact q
  · have fix : ∀ (k : Nat) (c : D), (ρ.set i (.own o'))[k]? = some (.own c) → ∃ c', ρ[k]? = some (.own c') := fun k c e => by
      by_cases hk : i = k
      · subst hk; exact ⟨_, hi⟩
      · rw [List.getElem?_set_ne hk] at e; exact ⟨_, e⟩
    obtain ⟨c, c1⟩ := fix j a g1
    obtain ⟨c', c2⟩ := fix j' b g2
    exact rp.di j j' c c' q hne c1 c2 g3
/-- what is one's own is kept for good from here on -/
theorem Rp.fix {K : PySem.W.Frag} {B : Bs} {F H : Hp} {σ : Sg} {ρ : Rho} {i : Nat} {o : D} (rp : Rp K B F σ H ρ) (hi : ρ[i]? = some (.own o)) : ∃ F', Same F F' ∧ Rp K B F' σ H (ρ.set i (.fz o)) := by
  obtain ⟨p, e1, h1, h2, h3, h4⟩ := rp.sl i _ hi
  obtain ⟨u, hu⟩ := h4.there
  have sm : Same F (upd F p u) := fun c o h => by rw [upd_ne (ne_of_none h h3)]; exact h
  have hl : i < ρ.length := (List.getElem?_eq_some_iff.mp hi).1
  refine ⟨_, sm, rp.fr.grow h1 h2 h3 hu, by rw [List.length_set]; exact rp.len, fun j s e => ?_, fun j j' a b q hne g1 g2 g3 => ?_⟩
  · by_cases hj : i = j
    · subst hj
      rw [List.getElem?_set_self hl] at e
      cases e
      refine ⟨_, e1, ?_⟩
      cases o with
      | list ds => obtain ⟨xs, k1, k2, z⟩ := h4; rw [hu] at k1; cases k1; exact .lst (.inl upd_same) (k2.mono sm) z
      | dk l2 => obtain ⟨xs, k1, k2⟩ := h4; rw [hu] at k1; cases k1; exact .dik (.inl upd_same) (k2.mono sm)
      | dt l2 => obtain ⟨xs, k1, k2⟩ := h4; rw [hu] at k1; cases k1; exact .dit (.inl upd_same) (k2.mono sm)
      | _ => exact h4.elim
    · rw [List.getElem?_set_ne hj] at e
      have q := rp.sl j s e
      cases s with
      | un => trivial
      | pot => exact q
      | rd d => obtain ⟨v, k1, k⟩ := q; exact ⟨v, k1, k.mono sm (Same.refl _)⟩
      | fz d => obtain ⟨v, k1, k⟩ := q; exact ⟨v, k1, k.mono sm⟩
      | own o2 =>
        obtain ⟨p2, k1, k2, k3, k4, k5⟩ := q
        have ne : p2 ≠ p := fun z => by subst z; exact rp.di i j o o2 p2 hj hi e e1 k1
        exact ⟨p2, k1, k2, k3, by rw [upd_ne ne]; exact k4, k5.mono sm fun u' hu' => hu'⟩
  · have fx : ∀ (k : Nat) (c : D), (ρ.set i (.fz o))[k]? = some (.own c) → ρ[k]? = some (.own c) := fun k c e => by
      by_cases hk : i = k
      · subst hk; rw [List.getElem?_set_self hl] at e; cases e
      · rw [List.getElem?_set_ne hk] at e; exact e
    exact rp.di j j' a b q hne (fx j a g1) (fx j' b g2) g3

/-! ### methods that change a list -/
section
variable {X : Cx} {e : Expr} {p : EX} {pos cpos apos opos : Pos} {x : Str}
/-- the slot's thing, one's own -/
def gOwn (i : Nat) (ρ : Rho) : Option D := match ρ[i]? with
  | some (.own o) => some o
  | _ => none
theorem gOwn_of {i : Nat} {ρ : Rho} {o : D} (h : gOwn i ρ = some o) : ρ[i]? = some (.own o) := by
  unfold gOwn at h
  split at h
  · rename_i o' e; cases h; exact e
  · cases h
/-- what a method does to what is one's own -/
def tyD (T : String) : D → Bool
  | .list _ => T == "list"
  | .dk _ => T == "dict"
  | .dt _ => T == "dict"
  | _ => false
/-- a method of one argument: kept; read; a new thing -/
def sOwn1 (T : String) (i : Nat) (p : EX) (f : D → D → Option D) : SX := fun ρ => bnd (opt (gOwn i ρ)) fun o => if tyD T o = true then bnd (fzv p ρ) fun y => bnd (opt (f o y)) fun o' => ret (.nx (ρ.set i (.own o'))) else fail
def newD : Rr → Option D
  | .fr o => some o
  | _ => none
def sOwn2 (T : String) (i : Nat) (p : EX) (f : D → D → Option D) : SX := fun ρ => bnd (opt (gOwn i ρ)) fun o => if tyD T o = true then bnd (p ρ) fun r => bnd (opt (newD r)) fun y => bnd (opt (f o y)) fun o' => ret (.nx (ρ.set i (.own o'))) else fail
/-- a method without arguments, its answer under the name j -/
def sOwn0 (T : String) (i j : Nat) (f : D → Option (D × D)) : SX := fun ρ => bnd (opt (gOwn i ρ)) fun o => bnd (opt (f o)) fun q => if tyD T o = true ∧ j < ρ.length then ret (.nx ((ρ.set i (.own q.1)).set j (.fz q.2))) else fail
def appD (o y : D) : Option D := match o with
  | .list xs => if xs.length < lim then some (.list (xs ++ [y])) else none
  | _ => none
def extD (o y : D) : Option D := match o, y with
  | .list xs, .list ys => if xs.length + ys.length ≤ lim then some (.list (xs ++ ys)) else none
  | _, _ => none
def popD (o : D) : Option (D × D) := match o with
  | .list xs => xs.getLast?.map fun y => (.list xs.dropLast, y)
  | _ => none
def Mut1 (X : Cx) (r : V → List V → Hp → VK → Prop) (f : D → D → Option D) : Prop := ∀ (F H : Hp) (a : Addr) (o : D) (v : V) (d o' : D) (Q : VK), Same F H → ObR X.K F H a o → Rv X.K F v d → f o d = some o' →
  (∀ u, ObR X.K F (upd H a u) a o' → Q .non (upd H a u)) → r (.ref a) [v] H Q
def Mut2 (X : Cx) (r : V → List V → Hp → VK → Prop) (f : D → D → Option D) : Prop := ∀ (F H : Hp) (a b : Addr) (o d o' : D) (Q : VK), Same F H → a ≠ b → ObR X.K F H a o → ObR X.K F H b d → f o d = some o' →
  (∀ u, ObR X.K F (upd H a u) a o' → Q .non (upd H a u)) → r (.ref a) [.ref b] H Q
def Mut0 (X : Cx) (r : V → List V → Hp → VK → Prop) (f : D → Option (D × D)) : Prop := ∀ (F H : Hp) (a : Addr) (o o' y : D) (Q : VK), Same F H → ObR X.K F H a o → f o = some (o', y) →
  (∀ u v, ObR X.K F (upd H a u) a o' → Rv X.K F v y → Q v (upd H a u)) → r (.ref a) [] H Q
theorem ty_of {K : PySem.W.Frag} {F H : Hp} {a : Addr} {o : D} {T : String} (h : ObR K F H a o) (e : tyD T o = true) : tyV K T (.ref a) H := by
  cases o with
  | list ds => obtain ⟨xs, h1, _⟩ := h; exact .inl ⟨by simpa [tyD] using e, xs, .inl (.inl h1)⟩
  | dk l => obtain ⟨xs, h1, _⟩ := h; exact .inr (.inr (.inl ⟨by simpa [tyD] using e, .inl ⟨xs, h1⟩⟩))
  | dt l => obtain ⟨xs, h1, _⟩ := h; exact .inr (.inr (.inl ⟨by simpa [tyD] using e, .inr ⟨xs, h1⟩⟩))
  | _ => exact h.elim
/-- a name, read -/
def nmT (i : Nat) : TE := fun σ H Q => ∃ x, σ[i]? = some (some x) ∧ Q x H
theorem own1_w {T : String} {r : V → List V → Hp → VK → Prop} {f : D → D → Option D} {i : Nat} (hm : Mut1 X r f) {D : Ends} {σ : Sg} {H : Hp} (q : lfS X (sOwn1 T i p f) D σ H) :
    tDrop (tBM X.K T r (nmT i) (tCons (lft X p) tNil)) D σ H := by
  obtain ⟨B, F, ρ, Q', rp, hp, k1, k2, k3, k4⟩ := q
  obtain ⟨o, e3, hp⟩ := opt_ok hp
  have hp' : (if tyD T o = true then bnd (fzv p ρ) (fun y => bnd (opt (f o y)) fun o' => ret (.nx (ρ.set i (.own o')))) else fail : M Fl) Q' := hp
  by_cases ty : tyD T o = true
  · rw [if_pos ty] at hp'
    have e5 := gOwn_of e3
    obtain ⟨a, e1, _, _, _, g⟩ := rp.sl i _ e5
    refine ⟨.ref a, e1, ty_of g ty, ?_⟩
    refine lft_fz rp hp' fun v H1 F1 d f1 rv q => ?_
    obtain ⟨o', e4, q⟩ := opt_ok q
    have rp1 := rp.fra f1
    obtain ⟨a', g1, g2, g3, g4, g5⟩ := rp1.sl i _ e5
    rw [e1] at g1
    cases g1
    exact hm F1 H1 a o v d o' _ rp1.fr.fsame g5 rv e4 fun u hu => k1 _ _ F1 _ f1.ff (rp1.mut e5 e1 hu) q
  · rw [if_neg ty] at hp'; exact hp'.elim
theorem own2_w {T : String} {r : V → List V → Hp → VK → Prop} {f : D → D → Option D} {i : Nat} (hm : Mut2 X r f) {D : Ends} {σ : Sg} {H : Hp} (q : lfS X (sOwn2 T i p f) D σ H) :
    tDrop (tBM X.K T r (nmT i) (tCons (lft X p) tNil)) D σ H := by
  obtain ⟨B, F, ρ, Q', rp, hp, k1, k2, k3, k4⟩ := q
  obtain ⟨o, e3, hp⟩ := opt_ok hp
  have hp' : (if tyD T o = true then bnd (p ρ) (fun r => bnd (opt (newD r)) fun y => bnd (opt (f o y)) fun o' => ret (.nx (ρ.set i (.own o')))) else fail : M Fl) Q' := hp
  by_cases ty : tyD T o = true
  · rw [if_pos ty] at hp'
    have e5 := gOwn_of e3
    obtain ⟨a, e1, _, n2, _, g⟩ := rp.sl i _ e5
    refine ⟨.ref a, e1, ty_of g ty, ?_⟩
    refine ⟨B, F, ρ, _, rp, hp', fun v H1 F1 rr f1 rv q => ?_⟩
    obtain ⟨y, e6, q1⟩ := opt_ok q
    obtain ⟨o', e4, q2⟩ := opt_ok q1
    have rp1 := rp.fra f1
    obtain ⟨a', g1, g2, g3, g4, g5⟩ := rp1.sl i _ e5
    rw [e1] at g1
    cases g1
    cases rr with
    | fr z =>
      cases e6
      obtain ⟨b, rfl, b1, b2, b3, b4⟩ := rv
      have ne : a ≠ b := fun z => by
        subst z
        obtain ⟨u, hu⟩ := g.there
        rw [hid_ne n2, hu] at b1
        cases b1
      exact hm F1 H1 a b o y o' _ rp1.fr.fsame ne g5 b4 e4 fun u hu => k1 _ _ F1 _ f1.ff (rp1.mut e5 e1 hu) q2
    | _ => cases e6
  · rw [if_neg ty] at hp'; exact hp'.elim
theorem own0_w {T : String} {r : V → List V → Hp → VK → Prop} {f : D → Option (D × D)} {i j : Nat} (hm : Mut0 X r f) {D : Ends} {σ : Sg} {H : Hp} (q : lfS X (sOwn0 T i j f) D σ H) :
    tAsg (tBM0 X.K T r (nmT i)) (gName j) D σ H := by
  obtain ⟨B, F, ρ, Q', rp, hp, k1, k2, k3, k4⟩ := q
  obtain ⟨o, e3, hp⟩ := opt_ok hp
  obtain ⟨⟨o', y⟩, e4, hp⟩ := opt_ok hp
  have hp' : (if tyD T o = true ∧ j < ρ.length then ret (.nx ((ρ.set i (.own o')).set j (.fz y))) else fail : M Fl) Q' := hp
  by_cases c : tyD T o = true ∧ j < ρ.length
  · rw [if_pos c] at hp'
    have e5 := gOwn_of e3
    obtain ⟨a, e1, _, _, _, g⟩ := rp.sl i _ e5
    refine ⟨.ref a, e1, ty_of g c.1, ?_⟩
    refine hm F H a o o' y _ rp.fr.fsame g e4 fun u v hu hv => ?_
    have r1 := rp.mut e5 e1 hu
    exact k1 _ _ F _ (Same.refl _) (r1.set (r := .val y) r1.fr.again hv rfl (by rw [List.length_set]; exact c.2)) hp'
  · rw [if_neg c] at hp'; exact hp'.elim
theorem m_append : Mut1 X rAppend appD := by
  intro F H a o v d o' Q sm h rv e k
  cases o with
  | list xs =>
    obtain ⟨vs, h1, h2, z⟩ := h
    have e' : (if xs.length < lim then some (D.list (xs ++ [d])) else none) = some o' := e
    by_cases c : xs.length < lim
    · rw [if_pos c] at e'
      cases e'
      refine ⟨a, vs, v, rfl, rfl, h1, by rw [h2.length, sizeLine_eq]; exact c, k _ ⟨_, upd_same, h2.append (.cons rv .nil), by rw [List.length_append]; exact lim_line c⟩⟩
    · rw [if_neg c] at e'; cases e'
  | _ => cases e
theorem m_extend : Mut2 X rExtend extD := by
  intro F H a b o d o' Q sm ne h hb e k
  cases o with
  | list xs =>
    cases d with
    | list ys =>
      obtain ⟨vs, h1, h2, z⟩ := h
      obtain ⟨ws, h3, h4, z2⟩ := hb
      have e' : (if xs.length + ys.length ≤ lim then some (D.list (xs ++ ys)) else none) = some o' := e
      by_cases c : xs.length + ys.length ≤ lim
      · rw [if_pos c] at e'
        cases e'
        refine ⟨a, b, vs, ws, rfl, rfl, h1, h3, by rw [h2.length, h4.length, sizeLine_eq]; exact c, k _ ⟨_, upd_same, h2.append h4, by rw [List.length_append]; exact lim_line c⟩⟩
      · rw [if_neg c] at e'; cases e'
    | _ => cases e
  | _ => cases d <;> cases e
theorem RvL.dropLast {K : PySem.W.Frag} {F : Hp} : ∀ {vs : List V} {ds : List D}, RvL K F vs ds → RvL K F vs.dropLast ds.dropLast
  | _, _, .nil => .nil
  | _, _, .cons h .nil => .nil
  | _, _, .cons h (.cons h2 t) => .cons h (RvL.dropLast (.cons h2 t))
theorem m_pop : Mut0 X rPop popD := by
  intro F H a o o' y Q sm h e k
  cases o with
  | list xs =>
    obtain ⟨vs, h1, h2, z⟩ := h
    have e' : xs.getLast?.map (fun y => (D.list xs.dropLast, y)) = some (o', y) := e
    obtain ⟨y', e1, e2⟩ := Option.map_eq_some_iff.mp e'
    cases e2
    rw [List.getLast?_eq_getElem?, ← h2.length] at e1
    obtain ⟨v, ev, rv⟩ := h2.at' e1
    refine ⟨a, vs, v, rfl, rfl, h1, ev, k _ v ⟨_, upd_same, h2.dropLast, ?_⟩ rv⟩
    rw [List.length_dropLast]; omega
  | _ => cases e
theorem pp_append (i : Nat) (he : PX X e p) (hN : X.N[i]? = some x := by rfl) (hv : Vis X.env.scope x := by first | exact Or.inl rfl | exact Or.inr (Or.inl rfl) | exact Or.inr (Or.inr rfl)) (hd : (x == ("__debug__" : Str)) = false := by decide) (hcd : (x == ("__classdict__" : Str)) = false := by decide)
    (hbase : attributeBase (.Name x opos) "append" X.env (eval (.Name x opos) X.env) = eval (.Name x opos) X.env := by rfl)
    (hfew : ((backTo cpos (starEach (e :: []) X.env)).all (fun x => !x.1) && (backToKw cpos (keywordEach [] X.env)).all (fun x => x.1.isSome)
      && decide ((e :: []).length + ([] : List Keyword).length + (if ([] : List Keyword).isEmpty then 0 else 1) < 30)) = true := by rfl)
    (hline : (apos.endLine == cpos.line) = true := by rfl) (hs : starEach (e :: []) X.env = (false, eval e X.env) :: starEach [] X.env := by rfl) (hplain : (backTo cpos (starEach [] X.env)).any (·.1) = false := by rfl) (hsw : swapsWith (.Call (.Attribute (.Name x opos) "append" apos) [e] [] cpos) none pos.line X.env = pure false := by kernel_rfl) :
    PP X (.Expr (.Call (.Attribute (.Name x opos) "append" apos) [e] [] cpos) pos) (sOwn1 "list" i p appD) :=
  PS.weak (ps_expr (pe_bm PySem.F.plainAttrs_list PySem.F.slot_list_append PySem.F.type_list_append mt_append (pv i hN hv hd hcd) (pa_cons he pa_nil hs) hbase hfew hline hs hplain) hsw) fun _ _ _ q => own1_w m_append q
theorem pp_extend (i : Nat) (he : PX X e p) (hN : X.N[i]? = some x := by rfl) (hv : Vis X.env.scope x := by first | exact Or.inl rfl | exact Or.inr (Or.inl rfl) | exact Or.inr (Or.inr rfl)) (hd : (x == ("__debug__" : Str)) = false := by decide) (hcd : (x == ("__classdict__" : Str)) = false := by decide)
    (hbase : attributeBase (.Name x opos) "extend" X.env (eval (.Name x opos) X.env) = eval (.Name x opos) X.env := by rfl)
    (hfew : ((backTo cpos (starEach (e :: []) X.env)).all (fun x => !x.1) && (backToKw cpos (keywordEach [] X.env)).all (fun x => x.1.isSome)
      && decide ((e :: []).length + ([] : List Keyword).length + (if ([] : List Keyword).isEmpty then 0 else 1) < 30)) = true := by rfl)
    (hline : (apos.endLine == cpos.line) = true := by rfl) (hs : starEach (e :: []) X.env = (false, eval e X.env) :: starEach [] X.env := by rfl) (hplain : (backTo cpos (starEach [] X.env)).any (·.1) = false := by rfl) (hsw : swapsWith (.Call (.Attribute (.Name x opos) "extend" apos) [e] [] cpos) none pos.line X.env = pure false := by kernel_rfl) :
    PP X (.Expr (.Call (.Attribute (.Name x opos) "extend" apos) [e] [] cpos) pos) (sOwn2 "list" i p extD) :=
  PS.weak (ps_expr (pe_bm PySem.F.plainAttrs_list PySem.F.slot_list_extend PySem.F.type_list_extend mt_extend (pv i hN hv hd hcd) (pa_cons he pa_nil hs) hbase hfew hline hs hplain) hsw) fun _ _ _ q => own2_w m_extend q
theorem pp_pop (i : Nat) {j : Nat} {y : Str} {py : Pos} (hNd : X.N.Nodup) (hN : X.N[i]? = some x := by rfl) (hj : X.N[j]? = some y := by rfl) (hv : Vis X.env.scope x := by first | exact Or.inl rfl | exact Or.inr (Or.inl rfl) | exact Or.inr (Or.inr rfl)) (hd : (x == ("__debug__" : Str)) = false := by decide) (hcd : (x == ("__classdict__" : Str)) = false := by decide)
    (hbase : attributeBase (.Name x opos) "pop" X.env (eval (.Name x opos) X.env) = eval (.Name x opos) X.env := by rfl) (hline : (apos.endLine == cpos.line) = true := by rfl)
    (hy : Loc X.env.scope y := by first | exact Or.inl rfl | exact Or.inr rfl) (hsw : swapsWith (.Call (.Attribute (.Name x opos) "pop" apos) [] [] cpos) (some (.Name y py)) pos.line X.env = pure false := by kernel_rfl)
    (hf : X.fn y = true ∨ X.env.scope.names.lookup y = some .local := by first | exact .inl rfl | exact .inr rfl | assumption) :
    PP X (.Assign [.Name y py] (.Call (.Attribute (.Name x opos) "pop" apos) [] [] cpos) pos) (sOwn0 "list" i j popD) :=
  PS.weak (ps_set hNd hj hy (pe_bm0 PySem.F.plainAttrs_list PySem.F.slot_list_pop PySem.F.type_list_pop mt_pop (pv i hN hv hd hcd) hbase hline) hsw hf) fun _ _ _ q => own0_w m_pop q
end

/-! ### several names -/
section
variable {X : Cx} {e tg : Expr} {p : EX} {t : TX} {ts : List Nat} {pos : Pos} {st : Stmt} {s : SX}
/-- target = value -/
theorem pp_asg (he : PX X e p) (hg : TGt X tg t ts) (hs : swapsWithSole [tg] e pos.line X.env = pure false := by rfl) (hw : swappedStores [tg] e X.env = pure none := by kernel_rfl)
    (h1 : (assignEach [tg] X.env).map (·.2) = [assign tg X.env] := by rfl) : PP X (.Assign [tg] e pos) (sAsg t p) := by
  refine PS.weak (ps_asg he hg hs hw h1) fun D σ H ⟨B, F, ρ, Q', rp, hp, k1, k2, k3, k4⟩ => ?_
  refine lft_fz rp hp fun v H1 F1 d f rv q => ?_
  obtain ⟨ρ', e1, q⟩ := opt_ok q
  exact ⟨B, F1, ρ, d, ρ', rp.fra f, rv, e1, fun σ' rp' _ => k1 _ _ F1 _ f.ff rp' q⟩
/-- a value, or a new thing: no name's thing -/
def Rr.nal : Rr → Option Sl
  | .val d => some (.fz d)
  | .fr o => some (.own o)
  | _ => none
/-- a, b = x, y -/
def sPar (i j : Nat) (a b : EX) : SX := fun ρ => bnd (a ρ) fun r => bnd (opt r.nal) fun x => bnd (b ρ) fun r2 => bnd (opt r2.nal) fun y => if i < ρ.length ∧ j < ρ.length then ret (.nx ((ρ.set i x).set j y)) else fail
theorem RrR.nal {K : PySem.W.Frag} {pt : Option Addr} {R F2 H2 : Hp} {σ σ' : Sg} {ρ ρ' : Rho} {v : V} {r : Rr} {s : Sl} (q : RrR K pt R F2 H2 σ ρ v r) (e : r.nal = some s) : RrR K pt R F2 H2 σ' ρ' v r ∧ r.sl ρ' = some s := by
  cases r with
  | val d => exact ⟨q, e⟩
  | fr o => exact ⟨q, e⟩
  | _ => cases e
theorem pp_par {i j : Nat} {x y : Str} {a b : Expr} {pa pb : EX} {px py pt : Pos} {kt k2 pt2} (hc : X.calm = true) (hN : X.N.Nodup) (ha : PX X a pa) (hb : PX X b pb) (hi : X.N[i]? = some x := by rfl) (hj : X.N[j]? = some y := by rfl) (hij : i ≠ j := by decide)
    (hx : X.env.scope.names.lookup x = some .local := by kernel_rfl) (hy : X.env.scope.names.lookup y = some .local := by kernel_rfl) (hsa : starEach [a, b] X.env = (false, eval a X.env) :: starEach [b] X.env := by rfl) (hsb : starEach [b] X.env = (false, eval b X.env) :: starEach [] X.env := by rfl)
    (hw : swappedStores [.Tuple [.Name x px, .Name y py] kt pt] (.Tuple [a, b] k2 pt2) X.env = pure (some [x, y]) := by kernel_rfl)
    (hs : swapsWithSole [.Tuple [.Name x px, .Name y py] kt pt] (.Tuple [a, b] k2 pt2) pos.line X.env = pure false := by rfl) :
    PP X (.Assign [.Tuple [.Name x px, .Name y py] kt pt] (.Tuple [a, b] k2 pt2) pos) (sPar i j pa pb) := by
  refine PS.weak (ps_par hc hN hi hj hij hx hy (pa_cons ha (pa_cons hb pa_nil hsb) hsa) hw hs) fun D σ H ⟨B, F, ρ, Q', rp, hp, k1, k2, k3, k4⟩ => ?_
  refine ⟨B, F, ρ, _, rp, hp, fun v H1 F1 r f rv q => ?_⟩
  obtain ⟨s1, e1, q1⟩ := opt_ok q
  refine ⟨B, F1, ρ, _, rp.fra f, q1, fun v2 H2 F2 r2 f2 rv2 q2 => ?_⟩
  obtain ⟨s2, e2, q3⟩ := opt_ok q2
  have q3 : (if i < ρ.length ∧ j < ρ.length then ret (.nx ((ρ.set i s1).set j s2)) else fail : M Fl) Q' := q3
  by_cases c : i < ρ.length ∧ j < ρ.length
  · rw [if_pos c] at q3
    have r3 := rp.set (i := i) f rv (rv.nal (σ' := σ) (ρ' := ρ) e1).2 c.1
    obtain ⟨n1, n2⟩ := rv2.nal (σ' := σ.set i (some v)) (ρ' := ρ.set i s1) e2
    have r4 := r3.set (i := j) f2 n1 n2 (by rw [List.length_set]; exact c.2)
    exact ⟨v, v2, rfl, k1 _ _ F2 _ (f.ff.trans f2.ff) r4 q3⟩
  · rw [if_neg c] at q3; exact q3.elim
/-- a ghost step: what is one's own under the i-th name never changes from here on -/
theorem pp_fix (i : Nat) (h : PP X st s) : PP X st (sSeq (sFix i) s) := by
  refine PS.weak h fun D σ H ⟨B, F, ρ, Q', rp, hp, k1, k2, k3, k4⟩ => ?_
  have hp' : bnd (sFix i ρ) (fun f => match f with | .nx ρ' => s ρ' | f => ret f) Q' := hp
  unfold sFix at hp'
  cases e : ρ[i]? with
  | none => rw [e] at hp'; exact hp'.elim
  | some sl =>
    rw [e] at hp'
    cases sl with
    | own o =>
      obtain ⟨F', sm, r'⟩ := rp.fix e
      exact ⟨B, F', _, Q', r', hp', fun σ3 H3 F3 ρ3 s3 => k1 σ3 H3 F3 ρ3 (sm.trans s3), fun σ3 H3 F3 ρ3 s3 => k2 σ3 H3 F3 ρ3 (sm.trans s3), fun σ3 H3 F3 ρ3 s3 => k3 σ3 H3 F3 ρ3 (sm.trans s3), k4⟩
    | _ => exact hp'.elim
theorem pb_fix {sts : List Stmt} (i : Nat) (h : PB X sts s) : PB X sts (sSeq (sFix i) s) := by
  refine PSs.weak h fun D σ H ⟨B, F, ρ, Q', rp, hp, k1, k2, k3, k4⟩ => ?_
  have hp' : bnd (sFix i ρ) (fun f => match f with | .nx ρ' => s ρ' | f => ret f) Q' := hp
  unfold sFix at hp'
  cases e : ρ[i]? with
  | none => rw [e] at hp'; exact hp'.elim
  | some sl =>
    rw [e] at hp'
    cases sl with
    | own o =>
      obtain ⟨F', sm, r'⟩ := rp.fix e
      exact ⟨B, F', _, Q', r', hp', fun σ3 H3 F3 ρ3 s3 => k1 σ3 H3 F3 ρ3 (sm.trans s3), fun σ3 H3 F3 ρ3 s3 => k2 σ3 H3 F3 ρ3 (sm.trans s3), fun σ3 H3 F3 ρ3 s3 => k3 σ3 H3 F3 ρ3 (sm.trans s3), k4⟩
    | _ => exact hp'.elim
end
end PV

set_option Elab.async false
set_option linter.all false
set_option maxRecDepth 100000
set_option maxHeartbeats 1000000
/-! PvL: isinstance, list(range(..)), slices, d.get, l.index. -/
namespace PV
open PySem PySem.Spec L2

/-! ### isinstance(x, T) -/
def D.tag : D → String
  | .none => "NoneType"
  | .bool _ => "bool"
  | .int _ => "int"
  | .str _ => "str"
  | .list _ => "list"
  | .tuple _ => "tuple"
  | .dk _ => "dict"
  | .dt _ => "dict"
def isT (T t : String) : Bool := t == T || (T == "int" && t == "bool")
def isiD (T : String) (d : D) : D := .bool (isT T d.tag)
/-- a built-in class that isinstance is asked for -/
def TyOk (T : String) : Prop := ∀ (K : PySem.W.Frag) (t : String), t ∈ ["NoneType", "bool", "int", "str", "list", "tuple", "dict"] → PySem.W.kitOne K (.type t) (.type T) = some (isT T t)
theorem tyok_int : TyOk "int" := by
  intro K t h
  simp only [List.mem_cons, List.not_mem_nil, or_false] at h
  rcases h with rfl | rfl | rfl | rfl | rfl | rfl | rfl <;> kernel_rfl
theorem tyok_bool : TyOk "bool" := by
  intro K t h
  simp only [List.mem_cons, List.not_mem_nil, or_false] at h
  rcases h with rfl | rfl | rfl | rfl | rfl | rfl | rfl <;> kernel_rfl
theorem tyok_str : TyOk "str" := by
  intro K t h
  simp only [List.mem_cons, List.not_mem_nil, or_false] at h
  rcases h with rfl | rfl | rfl | rfl | rfl | rfl | rfl <;> kernel_rfl
theorem tyok_tuple : TyOk "tuple" := by
  intro K t h
  simp only [List.mem_cons, List.not_mem_nil, or_false] at h
  rcases h with rfl | rfl | rfl | rfl | rfl | rfl | rfl <;> kernel_rfl
theorem tyok_list : TyOk "list" := by
  intro K t h
  simp only [List.mem_cons, List.not_mem_nil, or_false] at h
  rcases h with rfl | rfl | rfl | rfl | rfl | rfl | rfl <;> kernel_rfl
theorem tyok_dict : TyOk "dict" := by
  intro K t h
  simp only [List.mem_cons, List.not_mem_nil, or_false] at h
  rcases h with rfl | rfl | rfl | rfl | rfl | rfl | rfl <;> kernel_rfl
theorem D.tag_mem (d : D) : d.tag ∈ ["NoneType", "bool", "int", "str", "list", "tuple", "dict"] := by cases d <;> simp [D.tag]
/-- the class of what was read; dicts of tuples are left out where they are locked -/
theorem TopR.ty {K : PySem.W.Frag} {F G H : Hp} {v : V} {d : D} (t : TopR K F G v d) (e : Same F H) (g : Same G H) (hd : ∀ l, d ≠ .dt l) : TyX K H v (.type d.tag) := by
  cases d with
  | none => cases t with | non => exact .base .non
  | bool b => cases t with | bl => exact .base (.bl _)
  | int i => cases t with | int => exact .base (.int _)
  | str x => cases t with | str => exact .base (.str _)
  | tuple ds => cases (show Rv K F v (.tuple ds) from t) with | tup h1 h2 z => exact .base (.tup (e _ _ h1))
  | list ds =>
    obtain ⟨a, xs, rfl, h1, _, _⟩ := t
    rcases Same.sq g h1 with (h | ⟨o, h⟩) | ⟨o, its, n, hk, hc, _⟩
    · exact .base (.lst h)
    · exact .base (.frz h)
    · exact .kList hk hc
  | dk l2 =>
    obtain ⟨a, l, rfl, h1, _⟩ := t
    rcases Same.rd g h1 with h | ⟨o, h⟩
    · exact .base (.dK h)
    · exact .fDict h
  | dt l2 => exact absurd rfl (hd l2)
def nodt : D → Bool
  | .dt _ => false
  | _ => true
def isiO (T : String) (d : D) : Option D := if nodt d = true then some (isiD T d) else none
section
variable {X : Cx} {a : Expr} {pa : EX} {pos p' p2 : Pos}
theorem px_isi {T : String} {x : Str} (hT : TyOk T) (hm : X.mg "isinstance" = none) (hm2 : X.mg x = none) (ha : PX X a pa) (hv2 : bootBuiltins x = some (.type T) := by decide +kernel) (hv : bootBuiltins "isinstance" = some (.builtin "isinstance") := by decide +kernel)
    (hg : Gl X "isinstance" := by (unfold L2.Gl; kernel_rfl)) (hg2 : Gl X x := by (unfold L2.Gl; kernel_rfl)) (hn2 : x ≠ "__name__" := by decide) (hdb2 : (x == ("__debug__" : Str)) = false := by decide)
    (he : starEach [a, .Name x p2] X.env = (false, eval a X.env) :: starEach [.Name x p2] X.env := by rfl) (he2 : starEach [.Name x p2] X.env = (false, eval (.Name x p2) X.env) :: starEach [] X.env := by rfl)
    (hpl : (backTo pos (starEach [.Name x p2] X.env)).any (·.1) = false := by rfl) : PX X (.Call (.Name "isinstance" p') [a, .Name x p2] [] pos) (u1 (vl (isiO T)) pa) := by
  refine PE.weak (pe_callB call_isi hg hm hv (pa_cons ha (pa_cons (pe_bltn (v := .ty T) hg2 hm2 hv2 rfl hn2 hdb2) pa_nil he2) he) (by decide) (by decide) he hpl) fun σ H Q q => ?_
  refine core1 (X := X) (r := fun v H1 Q => rIsi X.K [v, .ty T] H1 Q) (pa := pa) ?_ q
  intro pt F R F1 H1 σ ρ x d Q Q' f t q k
  obtain ⟨z, e, q⟩ := opt_ok q
  obtain ⟨s1, s2⟩ := f.two
  unfold isiO at e
  by_cases c : nodt d = true
  · rw [if_pos c] at e
    cases e
    have hd : ∀ l, d ≠ .dt l := fun l z => by subst z; cases c
    exact ⟨x, .ty T, .type d.tag, .type T, _, rfl, .ty T, t.ty s1 s2 hd, hT _ _ d.tag_mem, Kt.val k f (.bl _) q⟩
  · rw [if_neg c] at e; cases e

/-! ### list(range(..)) -/
theorem rg_rv {K : PySem.W.Frag} {F : Hp} (a b : Int) : RvL K F (rgV a b) (rng a b) := by
  unfold rgV rng
  generalize List.range (b - a).toNat = l
  induction l with
  | nil => exact .nil
  | cons i l ih => exact .cons (.int _) ih
def rgE1 : D → M Rr := fun x => match x with
  | .int j => if okRng 0 j = true then ret (.fr (.list (rng 0 j))) else fail
  | _ => fail
def rgE2 : D → D → M Rr := fun x y => match x, y with
  | .int i, .int j => if okRng i j = true then ret (.fr (.list (rng i j))) else fail
  | _, _ => fail
theorem px_listRg1 {pr pl : Pos} (hc : X.calm = true) (hm : X.mg "range" = none) (hm2 : X.mg "list" = none) (ha : PX X a pa) (hg : Gl X "range" := by (unfold L2.Gl; kernel_rfl)) (hg2 : Gl X "list" := by (unfold L2.Gl; kernel_rfl)) (hs : starEach [a] X.env = (false, eval a X.env) :: starEach [] X.env := by rfl)
    (hs2 : starEach [.Call (.Name "range" p') [a] [] pr] X.env = (false, eval (.Call (.Name "range" p') [a] [] pr) X.env) :: starEach [] X.env := by rfl) : PX X (.Call (.Name "list" pl) [.Call (.Name "range" p') [a] [] pr] [] pos) (u1 rgE1 pa) := by
  refine PE.weak (pe_listRg hc hg2 hm2 (prg_1 hg hm ha hs) hs2) fun σ H Q q => ?_
  refine core1 (X := X) (r := fun x H1 Q => ∃ n, x = .int n ∧ (RgOk 0 n ∧ ∀ q, H1 q = none → Q (.ref q) (upd H1 q (.lst (rgV 0 n))))) (pa := pa) ?_ q
  intro pt F R F1 H1 σ ρ x d Q Q' f t q k
  cases d with
  | int j =>
    cases t with
    | int =>
      have q' : (if okRng 0 j = true then ret (.fr (.list (rng 0 j))) else fail : M Rr) Q' := q
      by_cases c : okRng 0 j = true
      · rw [if_pos c] at q'
        obtain ⟨h1, h2, h3, h4, h5⟩ := okR c
        exact ⟨j, rfl, ⟨h1, h2, h3, h4, h5⟩, fun p hp => Kt.lst k f hp (rg_rv 0 j) (by rw [rng_len]; exact lim_line h5) q'⟩
      · rw [if_neg c] at q'; exact q'.elim
  | _ => exact q.elim
theorem px_listRg2 {b : Expr} {pb : EX} {pr pl : Pos} (hc : X.calm = true) (hm : X.mg "range" = none) (hm2 : X.mg "list" = none) (ha : PX X a pa) (hb : PX X b pb) (hg : Gl X "range" := by (unfold L2.Gl; kernel_rfl)) (hg2 : Gl X "list" := by (unfold L2.Gl; kernel_rfl)) (hs : starEach [a, b] X.env = (false, eval a X.env) :: starEach [b] X.env := by rfl) (hsb : starEach [b] X.env = (false, eval b X.env) :: starEach [] X.env := by rfl)
    (hpl : (backTo pr (starEach [b] X.env)).any (·.1) = false := by rfl) (hs2 : starEach [.Call (.Name "range" p') [a, b] [] pr] X.env = (false, eval (.Call (.Name "range" p') [a, b] [] pr) X.env) :: starEach [] X.env := by rfl) : PX X (.Call (.Name "list" pl) [.Call (.Name "range" p') [a, b] [] pr] [] pos) (u2 rgE2 pa pb) := by
  refine PE.weak (pe_listRg hc hg2 hm2 (prg_2 hg hm ha hb hs hsb hpl) hs2) fun σ H Q q => ?_
  refine core2 (X := X) (r := fun x y H1 Q => ∃ i j, x = .int i ∧ y = .int j ∧ (RgOk i j ∧ ∀ q, H1 q = none → Q (.ref q) (upd H1 q (.lst (rgV i j))))) (pa := pa) (pb := pb) ?_ q
  intro pt F R F1 H1 σ ρ x y d d2 Q Q' f t u q k
  cases d with
  | int i =>
    cases d2 with
    | int j =>
      cases t with
      | int =>
        cases u with
        | int =>
          have q' : (if okRng i j = true then ret (.fr (.list (rng i j))) else fail : M Rr) Q' := q
          by_cases c : okRng i j = true
          · rw [if_pos c] at q'
            obtain ⟨h1, h2, h3, h4, h5⟩ := okR c
            exact ⟨i, j, rfl, rfl, ⟨h1, h2, h3, h4, h5⟩, fun p hp => Kt.lst k f hp (rg_rv i j) (by rw [rng_len]; exact lim_line h5) q'⟩
          · rw [if_neg c] at q'; exact q'.elim
    | _ => exact q.elim
  | _ => cases d2 <;> exact q.elim

/-! ### slices -/
abbrev OX := Rho → M (Option Int)
def oNo : OX := fun _ => ret none
def oSome (e : EX) : OX := fun ρ => bnd (rdv e ρ) fun d => match d with
  | .int i => ret (some i)
  | _ => fail
def lfO (X : Cx) (p : OX) : TO := fun σ H Q => ∃ B F ρ Q', Rp X.K B F σ H ρ ∧ p ρ Q' ∧ ∀ o H2 F2, Fr B.pt F (hid H B.pt) F2 H2 → Q' o → Q o H2
def POx (X : Cx) (e : Option Expr) (p : OX) : Prop := PO X e (lfO X p)
theorem PO.weak {X : Cx} {e : Option Expr} {t t' : TO} (h : PO X e t) (w : ∀ σ H Q, t' σ H Q → t σ H Q) : PO X e t' := ⟨fun pins s σ H Q I q => h.run pins s σ H Q I (w _ _ _ q)⟩
theorem po_no : POx X none oNo := PO.weak po_none fun σ H Q ⟨B, F, ρ, Q', rp, hp, k⟩ => k none H F rp.fr.again hp
theorem po_so (h : PX X a pa) : POx X (some a) (oSome pa) := by
  refine PO.weak (L2.po_some h) fun σ H Q ⟨B, F, ρ, Q', rp, hp, k⟩ => ?_
  refine lft_rd rp hp fun v H1 F1 d f t q => ?_
  cases d with
  | int i => cases t with | int => exact ⟨i, rfl, k (some i) H1 F1 f q⟩
  | _ => exact q.elim
def cutD (xs : List D) (lo hi : Option Int) : List D := (xs.drop (HT.sIx xs.length 0 lo)).take (HT.sIx xs.length xs.length hi - HT.sIx xs.length 0 lo)
def slE (lo hi : OX) (e : EX) : EX := fun ρ => bnd (rdv e ρ) fun d => bnd (lo ρ) fun l => bnd (hi ρ) fun h => match d with
  | .list xs => ret (.fr (.list (cutD xs l h)))
  | .tuple xs => ret (.val (.tuple (cutD xs l h)))
  | _ => fail
theorem RvL.drop {K : PySem.W.Frag} {F : Hp} : ∀ (n : Nat) {vs : List V} {ds : List D}, RvL K F vs ds → RvL K F (vs.drop n) (ds.drop n)
  | 0, _, _, r => r
  | _ + 1, _, _, .nil => .nil
  | n + 1, _, _, .cons h t => RvL.drop n t
theorem RvL.take {K : PySem.W.Frag} {F : Hp} : ∀ (n : Nat) {vs : List V} {ds : List D}, RvL K F vs ds → RvL K F (vs.take n) (ds.take n)
  | 0, _, _, r => by rw [List.take_zero, List.take_zero]; exact .nil
  | _ + 1, _, _, .nil => .nil
  | n + 1, _, _, .cons h t => .cons h (RvL.take n t)
theorem cut_rv {K : PySem.W.Frag} {F : Hp} {vs : List V} {ds : List D} (r : RvL K F vs ds) (lo hi : Option Int) : RvL K F (cutV vs lo hi) (cutD ds lo hi) := by
  unfold cutV cutD
  rw [r.length]
  exact (r.drop _).take _
theorem cut_len (ds : List D) (lo hi : Option Int) : (cutD ds lo hi).length ≤ ds.length := by
  unfold cutD
  rw [List.length_take, List.length_drop]
  omega
theorem cut_whole {ds : List D} {lo hi : Option Int} (h : HT.sIx ds.length 0 lo = 0 ∧ HT.sIx ds.length ds.length hi = ds.length) : cutD ds lo hi = ds := by
  unfold cutD
  rw [h.1, h.2, List.drop_zero, Nat.sub_zero, List.take_length]
theorem px_slice {lo hi : Option Expr} {pl ph : OX} (ha : PX X a pa) (hl : POx X lo pl) (hh : POx X hi ph) : PX X (.Subscript a (.Slice lo hi none p2) pos) (slE pl ph pa) := by
  refine PE.weak (pe_slice (sl_list.or sl_tupA) ha hl hh) fun σ H Q ⟨B, F, ρ, Q', rp, hp, k⟩ => ?_
  refine lft_rd rp hp fun v H1 F1 d f t q => ?_
  refine ⟨B, F1, ρ, _, rp.fra f, q, fun l H2 F2 f2 q2 => ?_⟩
  refine ⟨B, F2, ρ, _, (rp.fra f).fra f2, q2, fun h H3 F3 f3 q3 => ?_⟩
  have f' := (f.trans f2).trans f3
  have t' := (t.mono f2.ff f2.rhid).mono f3.ff f3.rhid
  obtain ⟨s1, s2⟩ := f'.two
  cases d with
  | list xs =>
    obtain ⟨a, vs, rfl, h1, h2, z⟩ := t'
    exact .inl ⟨a, vs, rfl, Same.sq s2 h1, fun p hp => Kt.lst k f' hp (cut_rv h2 l h) (Nat.le_trans (cut_len xs l h) z) q3⟩
  | tuple xs =>
    have t2 : Rv X.K F3 v (.tuple xs) := t'
    cases t2 with
    | @tup a vs _ h1 h2 z =>
      refine .inr ⟨a, vs, rfl, SqT.of (s1 _ _ h1), fun w => ?_, fun w p hp => Kt.tup k f' hp (cut_rv h2 l h) (Nat.le_trans (cut_len xs l h) z) q3⟩
      rw [h2.length] at w
      have q4 : Q' (.val (.tuple (cutD xs l h))) := q3
      rw [cut_whole w] at q4
      exact Kt.val k f' (.tup h1 h2 z) q4
  | _ => exact q3.elim

/-! ### d.get, l.index -/
def isDk : D → Bool
  | .dk _ => true
  | .dt _ => true
  | _ => false
def getE1 (o k : EX) : EX := fun ρ => bnd (rdv o ρ) fun d => if isDk d = true then bnd (rdv k ρ) fun x => bnd (opt (dget d x)) fun r => ret (.val (r.getD .none)) else fail
def getE2 (o k z : EX) : EX := fun ρ => bnd (rdv o ρ) fun d => if isDk d = true then bnd (rdv k ρ) fun x => bnd (fzv z ρ) fun y => bnd (opt (dget d x)) fun r => ret (.val (r.getD y)) else fail
theorem isD_of {K : PySem.W.Frag} {F G H : Hp} {v : V} {d : D} (t : TopR K F G v d) (g : Same G H) (h : isDk d = true) : ∃ a, v = .ref a ∧ IsD H a := by
  cases d with
  | dk l2 => obtain ⟨a, l, rfl, h1, _⟩ := t; exact ⟨a, rfl, .inl ⟨l, Same.rd g h1⟩⟩
  | dt l2 => obtain ⟨a, l, rfl, h1, _⟩ := t; exact ⟨a, rfl, .inr ⟨l, Same.rd g h1⟩⟩
  | _ => cases h
variable {b c : Expr} {pb pc : EX} {apos cpos : Pos}
theorem px_get1 (hu : X.A.units + 1 < cLine) (ha : PX X a pa) (hb : PX X b pb) (m : M1 X a "get" apos b cpos := by exact ⟨rfl, rfl, rfl, rfl⟩) : PX X (.Call (.Attribute a "get" apos) [b] [] cpos) (getE1 pa pb) := by
  refine PE.weak (pe_dget1 hu ha hb m) fun σ H Q ⟨B, F, ρ, Q', rp, hp, k⟩ => ?_
  refine lft_rd rp hp fun v H1 F1 d f t q => ?_
  have q0 : (if isDk d = true then bnd (rdv pb ρ) (fun x => bnd (opt (dget d x)) fun r => ret (.val (r.getD .none))) else fail : M Rr) Q' := q
  by_cases z : isDk d = true
  · rw [if_pos z] at q0
    obtain ⟨s1, s2⟩ := f.two
    obtain ⟨p, e, hd⟩ := isD_of t s2 z
    subst e
    refine ⟨p, rfl, hd, ?_⟩
    refine lft_rd (rp.fra f) q0 fun v2 H2 F2 d2 f2 t2 q2 => ?_
    obtain ⟨r, e1, q3⟩ := opt_ok q2
    obtain ⟨s3, s4⟩ := f2.two
    obtain ⟨p', o, e2, g, h1, h2⟩ := dget_of (t.mono f2.ff f2.rhid) t2 s3 s4 e1
    cases e2
    refine ⟨o, g, ?_⟩
    cases r with
    | none => rw [h2 rfl]; exact Kt.val k (f.trans f2) .non q3
    | some y => obtain ⟨w, e3, rw'⟩ := h1 y rfl; rw [e3]; exact Kt.val k (f.trans f2) rw' q3
  · rw [if_neg z] at q0; exact q0.elim
theorem px_get2 (hu : X.A.units + 1 < cLine) (ha : PX X a pa) (hb : PX X b pb) (hc : PX X c pc) (m : M2 X a "get" apos b c cpos := by exact ⟨rfl, rfl, rfl, rfl⟩) : PX X (.Call (.Attribute a "get" apos) [b, c] [] cpos) (getE2 pa pb pc) := by
  refine PE.weak (pe_dget2 hu ha hb hc m) fun σ H Q ⟨B, F, ρ, Q', rp, hp, k⟩ => ?_
  refine lft_rd rp hp fun v H1 F1 d f t q => ?_
  have q0 : (if isDk d = true then bnd (rdv pb ρ) (fun x => bnd (fzv pc ρ) fun y => bnd (opt (dget d x)) fun r => ret (.val (r.getD y))) else fail : M Rr) Q' := q
  by_cases z : isDk d = true
  · rw [if_pos z] at q0
    obtain ⟨s1, s2⟩ := f.two
    obtain ⟨p, e, hd⟩ := isD_of t s2 z
    subst e
    refine ⟨p, rfl, hd, ?_⟩
    refine lft_rd (rp.fra f) q0 fun v2 H2 F2 d2 f2 t2 q2 => ?_
    refine lft_fz ((rp.fra f).fra f2) q2 fun v3 H3 F3 d3 f3 t3 q3 => ?_
    obtain ⟨r, e1, q4⟩ := opt_ok q3
    obtain ⟨s3, s4⟩ := f3.two
    obtain ⟨p', o, e2, g, h1, h2⟩ := dget_of ((t.mono f2.ff f2.rhid).mono f3.ff f3.rhid) (t2.mono f3.ff f3.rhid) s3 s4 e1
    cases e2
    refine ⟨o, g, ?_⟩
    cases r with
    | none => rw [h2 rfl]; exact Kt.val k ((f.trans f2).trans f3) t3 q4
    | some y => obtain ⟨w, e3, rw'⟩ := h1 y rfl; rw [e3]; exact Kt.val k ((f.trans f2).trans f3) rw' q4
  · rw [if_neg z] at q0; exact q0.elim
def indexD (d x : D) : Option D := match d with
  | .list ds => if shp x = true ∧ shp d = true then (ds.findIdx? fun z => eqB z x).map fun i => .int (i : Nat) else none
  | _ => none
def indE (o k : EX) : EX := fun ρ => bnd (rdv o ρ) fun d => if tyD "list" d = true then bnd (rdv k ρ) fun x => bnd (opt (indexD d x)) fun r => ret (.val r) else fail
theorem px_index (hu : X.A.units + 65 < cLine) (ha : PX X a pa) (hb : PX X b pb)
    (hbase : attributeBase a "index" X.env (eval a X.env) = eval a X.env := by rfl)
    (hfew : ((backTo cpos (starEach (b :: []) X.env)).all (fun x => !x.1) && (backToKw cpos (keywordEach [] X.env)).all (fun x => x.1.isSome)
      && decide ((b :: []).length + ([] : List Keyword).length + (if ([] : List Keyword).isEmpty then 0 else 1) < 30)) = true := by rfl)
    (hline : (apos.endLine == cpos.line) = true := by rfl) (hs : starEach (b :: []) X.env = (false, eval b X.env) :: starEach [] X.env := by rfl) (hplain : (backTo cpos (starEach [] X.env)).any (·.1) = false := by rfl) :
    PX X (.Call (.Attribute a "index" apos) [b] [] cpos) (indE pa pb) := by
  refine PE.weak (pe_bm PySem.F.plainAttrs_list PySem.F.slot_list_index PySem.F.type_list_index (mt_indexD hu) ha (pa_cons hb pa_nil hs) hbase hfew hline hs hplain) fun σ H Q ⟨B, F, ρ, Q', rp, hp, k⟩ => ?_
  refine lft_rd rp hp fun v H1 F1 d f t q => ?_
  have q0 : (if tyD "list" d = true then bnd (rdv pb ρ) (fun x => bnd (opt (indexD d x)) fun r => ret (.val r)) else fail : M Rr) Q' := q
  by_cases z : tyD "list" d = true
  · rw [if_pos z] at q0
    cases d with
    | list ds =>
      obtain ⟨s1, s2⟩ := f.two
      have t' := t
      obtain ⟨p, xs, e, h1, _, _⟩ := t'
      subst e
      refine ⟨.inl ⟨rfl, xs, Same.sq s2 h1⟩, ?_⟩
      refine lft_rd (rp.fra f) q0 fun v2 H2 F2 d2 f2 t2 q2 => ?_
      obtain ⟨r, e1, q3⟩ := opt_ok q2
      obtain ⟨s3, s4⟩ := f2.two
      have e1' : (if shp d2 = true ∧ shp (.list ds) = true then (ds.findIdx? fun z => eqB z d2).map fun i => D.int (i : Nat) else none) = some r := e1
      by_cases c : shp d2 = true ∧ shp (.list ds) = true
      · rw [if_pos c] at e1'
        obtain ⟨j, e2, e3⟩ := Option.map_eq_some_iff.mp e1'
        subst e3
        obtain ⟨hj, hj1, hj2⟩ := List.findIdx?_eq_some_iff_getElem.mp e2
        have dl := (t.mono f2.ff f2.rhid).dp s3 s4 (shp_lay c.2)
        have dx := t2.dp s3 s4 (shp_lay c.1)
        refine ⟨p, v2, d2.p, D.ps ds, j, ds[j].p, rfl, rfl, dl, dx, c.2, c.1, ?_, hj1, fun m z' hm hz => ?_, Kt.val k (f.trans f2) (.int _) q3⟩
        · rw [D.ps_map, List.getElem?_map, List.getElem?_eq_getElem hj]; rfl
        · rw [D.ps_map, List.getElem?_map] at hz
          obtain ⟨w, hw, e4⟩ := Option.map_eq_some_iff.mp hz
          subst e4
          obtain ⟨hm', e5⟩ := List.getElem?_eq_some_iff.mp hw
          subst e5
          simpa [eqB] using hj2 m hm
      · rw [if_neg c] at e1'; cases e1'
    | _ => cases z
  · rw [if_neg z] at q0; exact q0.elim
end
end PV

set_option Elab.async false
set_option linter.all false
set_option maxRecDepth 100000
set_option maxHeartbeats 1000000
/-! PvM: dicts: d[k] = v, comprehensions. -/
namespace PV
open PySem PySem.Spec L2

def putL {κ : Type} [DecidableEq κ] (l : List (κ × D)) (k : κ) (d : D) : List (κ × D) := if (l.any fun p => decide (p.1 = k)) = true then l.map (fun p => if p.1 = k then (p.1, d) else p) else l ++ [(k, d)]
/-- o[k] = v -/
def putO (o k v : D) : Option D := match o with
  | .dk l => if l.length < lim then (kyOf k).map fun k => .dk (putL l k v) else none
  | .dt l => if l.length < lim then (tkOf k).map fun k => .dt (putL l k v) else none
  | _ => none
section
variable {K : PySem.W.Frag} {F : Hp}
theorem RvK.any (k : Key) : ∀ {l : List (Key × V)} {l2 : List (Ky × D)}, RvK K F l l2 → (l.any fun p => decide (p.1 = k)) = l2.any fun p => decide (p.1 = k)
  | _, _, .nil => rfl
  | _, _, .cons _ r => by rw [List.any_cons, List.any_cons, RvK.any k r]
theorem RvK.repl (k : Key) {v : V} {d : D} (h : Rv K F v d) : ∀ {l : List (Key × V)} {l2 : List (Ky × D)}, RvK K F l l2 → RvK K F (l.map fun p => if p.1 = k then (p.1, v) else p) (l2.map fun p => if p.1 = k then (p.1, d) else p)
  | _, _, .nil => .nil
  | _, _, .cons (k := k') h1 r => by
    rw [List.map_cons, List.map_cons]
    by_cases e : k' = k
    · rw [if_pos e, if_pos e]; exact .cons h (RvK.repl k h r)
    · rw [if_neg e, if_neg e]; exact .cons h1 (RvK.repl k h r)
theorem RvK.snoc {k : Key} {v : V} {d : D} (h : Rv K F v d) : ∀ {l : List (Key × V)} {l2 : List (Ky × D)}, RvK K F l l2 → RvK K F (l ++ [(k, v)]) (l2 ++ [(k, d)])
  | _, _, .nil => .cons h .nil
  | _, _, .cons h1 r => .cons h1 (RvK.snoc h r)
theorem RvK.put {k : Key} {v : V} {d : D} (h : Rv K F v d) {l : List (Key × V)} {l2 : List (Ky × D)} (r : RvK K F l l2) : RvK K F (putK l k v) (putL l2 k d) := by
  unfold putK putL
  rw [r.any k]
  by_cases e : (l2.any fun p => decide (p.1 = k)) = true
  · rw [if_pos e, if_pos e]; exact RvK.repl k h r
  · rw [if_neg e, if_neg e]; exact RvK.snoc h r
theorem RvT.any (k : List Key) : ∀ {l : List (List Key × V)} {l2 : List (List Ky × D)}, RvT K F l l2 → (l.any fun p => decide (p.1 = k)) = l2.any fun p => decide (p.1 = k)
  | _, _, .nil => rfl
  | _, _, .cons _ r => by rw [List.any_cons, List.any_cons, RvT.any k r]
theorem RvT.repl (k : List Key) {v : V} {d : D} (h : Rv K F v d) : ∀ {l : List (List Key × V)} {l2 : List (List Ky × D)}, RvT K F l l2 → RvT K F (l.map fun p => if p.1 = k then (p.1, v) else p) (l2.map fun p => if p.1 = k then (p.1, d) else p)
  | _, _, .nil => .nil
  | _, _, .cons (k := k') h1 r => by
    rw [List.map_cons, List.map_cons]
    by_cases e : k' = k
    · rw [if_pos e, if_pos e]; exact .cons h (RvT.repl k h r)
    · rw [if_neg e, if_neg e]; exact .cons h1 (RvT.repl k h r)
theorem RvT.snoc {k : List Key} {v : V} {d : D} (h : Rv K F v d) : ∀ {l : List (List Key × V)} {l2 : List (List Ky × D)}, RvT K F l l2 → RvT K F (l ++ [(k, v)]) (l2 ++ [(k, d)])
  | _, _, .nil => .cons h .nil
  | _, _, .cons h1 r => .cons h1 (RvT.snoc h r)
theorem RvT.put {k : List Key} {v : V} {d : D} (h : Rv K F v d) {l : List (List Key × V)} {l2 : List (List Ky × D)} (r : RvT K F l l2) : RvT K F (putK l k v) (putL l2 k d) := by
  unfold putK putL
  rw [r.any k]
  by_cases e : (l2.any fun p => decide (p.1 = k)) = true
  · rw [if_pos e, if_pos e]; exact RvT.repl k h r
  · rw [if_neg e, if_neg e]; exact RvT.snoc h r
theorem putO_of {H G : Hp} {a : Addr} {o k d o' : D} {y v : V} (h : ObR K F H a o) (sm : Same F H) (g : Same G H) (t : TopR K F G y k) (r : Rv K F v d) (e : putO o k d = some o') : ∃ u, DPut H a y v (upd H a u) ∧ ObR K F (upd H a u) a o' := by
  cases o with
  | dk l2 =>
    obtain ⟨l, h1, h2⟩ := h
    have e' : (if l2.length < lim then (kyOf k).map fun k => D.dk (putL l2 k d) else none) = some o' := e
    by_cases c : l2.length < lim
    · rw [if_pos c] at e'
      obtain ⟨kk, e1, e2⟩ := Option.map_eq_some_iff.mp e'
      subst e2
      have ux : Rv K F y k := t.rv (by cases k <;> first | rfl | cases e1)
      have ex := ky_of ux e1
      subst ex
      exact ⟨_, DPut.k h1 (by rw [h2.length, sizeLine_eq]; exact c), _, upd_same, h2.put r⟩
    · rw [if_neg c] at e'; cases e'
  | dt l2 =>
    obtain ⟨l, h1, h2⟩ := h
    have e' : (if l2.length < lim then (tkOf k).map fun k => D.dt (putL l2 k d) else none) = some o' := e
    by_cases c : l2.length < lim
    · rw [if_pos c] at e'
      obtain ⟨kk, e1, e2⟩ := Option.map_eq_some_iff.mp e'
      subst e2
      cases k with
      | tuple ds =>
        cases (show Rv K F y (.tuple ds) from t) with
        | tup p q z =>
          have ex := kys_of q e1
          subst ex
          exact ⟨_, DPut.t h1 (sm _ _ p) (by rw [h2.length, sizeLine_eq]; exact c), _, upd_same, h2.put r⟩
      | _ => cases e1
    · rw [if_neg c] at e'; cases e'
  | _ => cases e
end

/-! ### d[k] = v -/
section
variable {X : Cx} {e ek ev : Expr} {p pk pv' : EX} {pos cpos apos opos spos : Pos} {x : Str}
def sPut (i : Nat) (k v : EX) : SX := fun ρ => bnd (fzv v ρ) fun d => bnd (opt (gOwn i ρ)) fun o => bnd (rdv k ρ) fun y => bnd (opt (putO o y d)) fun o' => ret (.nx (ρ.set i (.own o')))
theorem pp_put (i : Nat) (hu : X.A.units + 1 < cLine) (hk : PX X ek pk) (hv : PX X ev pv') (hN : X.N[i]? = some x := by rfl) (hvis : Vis X.env.scope x := by first | exact Or.inl rfl | exact Or.inr (Or.inl rfl) | exact Or.inr (Or.inr rfl)) (hd : (x == ("__debug__" : Str)) = false := by decide) (hcd : (x == ("__classdict__" : Str)) = false := by decide)
    (hs : swapsWith ev (some (.Subscript (.Name x opos) ek spos)) pos.line X.env = pure false := by kernel_rfl) : PP X (.Assign [.Subscript (.Name x opos) ek spos] ev pos) (sPut i pk pv') := by
  refine PS.weak (ps_dput hu (L2.pv i hN hvis hd hcd) hk hv hs) fun D σ H ⟨B, F, ρ, Q', rp, hp, k1, k2, k3, k4⟩ => ?_
  refine lft_fz rp hp fun v H1 F1 d f rv q => ?_
  have rp1 := rp.fra f
  obtain ⟨o, e1, q⟩ := opt_ok q
  have e2 := gOwn_of e1
  obtain ⟨a, e3, _⟩ := rp1.sl i _ e2
  refine ⟨.ref a, e3, ?_⟩
  refine lft_rd rp1 q fun v2 H2 F2 d2 f2 t2 q2 => ?_
  obtain ⟨o', e4, q3⟩ := opt_ok q2
  have rp2 := rp1.fra f2
  obtain ⟨a', e5, _, _, _, ob⟩ := rp2.sl i _ e2
  rw [e3] at e5
  cases e5
  obtain ⟨s1, s2⟩ := f2.two
  obtain ⟨u, g, h⟩ := putO_of ob s1 s2 t2 (rv.mono f2.ff) e4
  exact ⟨a, _, rfl, g, k1 _ _ F2 _ (f.ff.trans f2.ff) (rp2.mut e2 e3 h) q3⟩
end

/-! ### dict comprehensions -/
/-- a new dict -/
def emptyH (b : Bool) : HO := if b = true then .dT [] else .dK []
def emptyD (b : Bool) : D := if b = true then .dt [] else .dk []
/-- a comprehension stores a pair -/
theorem put_pair {X : Cx} {pins : List (Addr × Obj)} {σ : Sg} {H H' : Hp} {s : Shared} {E : Value → Shared → Prop} {a : Addr} {y v : V} {u r : Value} {Q : Unit → Shared → Prop} (hu : X.A.units + 1 < cLine) (I : Inv X pins σ H s) (g : DPut H a y v H') (ry : RelV y u) (rv : RelV v r)
    (h : ∀ s', Inv X pins σ H' s' → Q () s') : wpAny (model X.prog X.w) X.A (dictSet a u r) Q E s := by
  rcases g with ⟨kvs, k, e, ey, l, eH⟩ | ⟨kvs, k, b, e, ey, eb, l, eH⟩
  · subst ey eH
    exact d_dictSet I e l ry rv h
  · subst ey eH
    cases (show u = Value.ref b from ry)
    obtain ⟨z, hd, xs, rel, dd⟩ := dt_of I.hok e
    have hz : xs.length ≤ sizeLine := by rw [← Paired.length rel]; exact z
    have hl : (putK kvs k v).length ≤ sizeLine := by have := length_putK kvs k v; omega
    refine wpAny_dictSet_heap (hsz := hz) (show (tupleKind (mixKind X.prog X.w)).room X.A from by show X.A.units < cLine; omega) (key_of I.hok eb) dd fun h' dd' hs => h _ ?_
    obtain ⟨q, es, ep, hq, h2, h3, h4, _, h5⟩ := dd'
    refine d_write I (by rw [e]; exact True.intro) hs ⟨q, hq⟩ ⟨hl, hd, _, (rel.put k eb rv).keeps fun c ys ec => ?_, q, es, ep, hq, h2, h3, h4, h5⟩
    rw [upd_ne (ne_of ec e (fun z => nomatch z))]
    exact ec
section
variable {X : Cx}
def tDcG (b : Bool) (wi : TI) (g : TG) (tt : TT) (tk tv : TE) (vs : List Nat) : TE := fun σ H Q => wi σ H fun J H1 => ∀ D, H1 D = none → ∃ W : Nat → Nat → Hp → Prop, (∃ m, W 0 m (upd H1 D (emptyH b))) ∧ ∀ i m H, W i m H →
  (J.stop i H ∧ Q (.ref D) H) ∨ (J.go i H ∧ ∃ Nx : Hp → Prop, (∀ H', Nx H' → ∃ m', m' < m ∧ W (i + 1) m' H') ∧ ∀ x H', J.yld i H x H' → g x (wipe σ vs) H' fun σ2 H2 => wipe σ2 vs = wipe σ vs ∧ tt σ2 H2 fun b H3 =>
    if b = true then tk σ2 H3 fun y H4 => tv σ2 H4 fun z H5 => ∃ H6, DPut H5 D y z H6 ∧ Nx H6 else Nx H3)
theorem empty_ok {P : Program} {w : World} {H : Hp} (b : Bool) (h : Heap) (hb : sysModules < h.objs.size) : ObjOk P w H (h.push { cls := .type "dict", data := .dict #[] }) h.objs.size (emptyH b) := by
  cases b with
  | true => exact dt_empty h hb
  | false => exact dk_empty h hb
theorem dcG_core {pins : List (Addr × Obj)} {s : Shared} {σ : Sg} {H : Hp} {Q : VK} {use : Option (Value → Sem Unit)} {Qf : Value → Shared → Prop} {b : Bool} {kx vx tg iter : Expr} {ifs : List Expr} {scope : Scope} {own : List (Str × Nat)} {pos pos' : Pos} {wi : TI} {g : TG} {tt : TT} {tk tv : TE} (hu : X.A.units + 1 < cLine) (hc : X.calm = true) (hN : X.N.Nodup) (I : L2.Inv X pins σ H s) (hi : PI X tg iter wi) (ok : BlkOk X.N X.env.scope scope own)
    (hg : Blk X scope fun X => PG X tg g) (ht : Blk X scope fun X => PTs X ifs tt) (hk : Blk X scope fun X => PE X kx tk) (he : Blk X scope fun X => PE X vx tv) (hs : ∀ x, foldedSetIterable iter X.env x = pure x)
    (h : tDcG b wi g tt tk tv (own.map (·.2)) σ H Q)
    (hRR : ∀ D C s' m H', L2.Inv X pins σ H' s' → Q (.ref D) H' → s'.heap.Ns C m → FpOk X pins H' C → compPost (model X.prog X.w) X.A X.xe use Qf (.ref D) C (.ok .next) s') :
    wpAny (model X.prog X.w) X.A (comprehension (.DictComp kx vx [⟨tg, iter, ifs, 0⟩] scope pos) scope X.env pos' newDict false (eval iter X.env) use) Qf X.xe s := by
  have hfree : ∀ y ∈ scope.names, y.2 = .free → ∃ c, X.env.cells.lookup y.1 = some c := fun y hy e => by
    rcases ok.free y hy e with k | k
    · exact I.ok.has _ (.inl k)
    · exact I.ok.has _ (.inr k)
  refine wpAny_comprehension_free (use := use) rfl hs (closure_ok hfree) ok.kind (fun y hy e => by rw [ok.uniq y hy, e])
    (thn (hi.run pins s σ H _ I h) fun xv s1 hx => thn hx fun itv s2 h2 => ?_)
  obtain ⟨it, fp, tn, J, H2, e, I2, T, st2, f2, q⟩ := h2
  subst e
  refine wpAny_newObj_type (newEnv_comp ?_)
  generalize hD : s2.heap.objs.size = D
  have hDn : H2 D = none := I2.hok.fresh (Nat.le_of_eq hD)
  obtain ⟨W, ⟨m0, w0⟩, turn⟩ := q D hDn
  generalize hs3 : ({ s2 with heap := s2.heap.push { cls := .type "dict", data := .dict #[] } } : Shared) = s3
  have h3 : s3.heap = s2.heap.push { cls := .type "dict", data := .dict #[] } := by rw [← hs3]
  have I3 : Inv X pins σ (upd H2 D (emptyH b)) s3 := by
    rw [← hs3, ← hD]
    exact I2.laid (t' := s2.toks) (fun b o e => Heap.get?_push_of_some _ e) (Nat.le_refl _) (empty_ok b s2.heap I2.big)
  have f3 : ∀ c ∈ fp, FpOk X pins (upd H2 D (emptyH b)) c ∧ c < s3.heap.objs.size := fun c hc => by
    have hlt : c < s2.heap.objs.size := by obtain ⟨o, e, _⟩ := T.obj _ _ st2 c hc; exact Heap.lt_size e
    refine ⟨⟨?_, (f2 c hc).2⟩, by rw [h3, Heap.size_push]; exact Nat.lt_succ_of_lt hlt⟩
    rw [upd_ne (by rw [← hD]; exact Nat.ne_of_lt hlt)]
    exact (f2 c hc).1
  have st3 : tn 0 s3.heap := T.keep _ _ _ st2 fun b _ o e => by rw [h3]; exact Heap.get?_push_of_some _ e
  have I4 := block_start I3 ok hN f3
  generalize hcl : cellsFrom (s3.heap.objs.size + 1) scope.names (cloFrom X.env.cells scope.names []) = cl at I4 ⊢
  have pg := hg s3 (upd H2 D (emptyH b)) s3.heap.objs.size cl fp
  have pt := ht s3 (upd H2 D (emptyH b)) s3.heap.objs.size cl fp
  have pk := hk s3 (upd H2 D (emptyH b)) s3.heap.objs.size cl fp
  have pe := he s3 (upd H2 D (emptyH b)) s3.heap.objs.size cl fp
  have nfp : ∀ c ∈ fp, (upd H2 D (emptyH b)) c = none := fun c hc => (f3 c hc).1.1
  show codeAny _ _ (.compStart (.DictComp kx vx [⟨tg, iter, ifs, 0⟩] scope pos) 0 (.ref it) (.ref D) (compEnvC scope cl s3.heap.objs.size X.env)) (compPost (model X.prog X.w) X.A X.xe use Qf (.ref D) s3.heap.objs.size) { s3 with heap := pushCells (s3.heap.push { cls := .type "dict", data := .dict #[] }) scope.names }
  generalize hce : compEnvC scope cl s3.heap.objs.size X.env = ce at I4 pg pt pk pe ⊢
  have cL : ce.locals = s3.heap.objs.size := by subst hce; rfl
  generalize hH3 : upd H2 D (emptyH b) = H3 at I3 I4 pg pt pk pe w0 nfp f3
  generalize hs4 : ({ s3 with heap := pushCells (s3.heap.push { cls := .type "dict", data := .dict #[] }) scope.names } : Shared) = s4 at I4 ⊢
  have st4 : tn 0 s4.heap := T.keep _ _ _ st3 fun b _ o e => by rw [← hs4]; exact pushCells_keeps _ _ _ _ (Heap.get?_push_of_some _ e)
  have stat : ∀ {σ' : Sg} {H' : Hp} {s' : Shared}, Inv (X.blk s3 H3 scope ce fp) [] σ' H' s' → (∀ b ∈ fp, H' b = none) → ∀ b ∈ fp, FpOk (X.blk s3 H3 scope ce fp) [] H' b := fun {σ' H' s'} I' hn b hb =>
    ⟨hn b hb, (I'.ok.exf b hb).1, I'.ok.exfs b hb, .inl hb, fun x c e => (I'.ok.exf b hb).2 x c e, fun p hp => absurd (show p ∈ ([] : List (Addr × Obj)) ++ [] from hp) (by simp)⟩
  have loop : codeAny (model X.prog X.w) X.A (.compLoop (.DictComp kx vx [⟨tg, iter, ifs, 0⟩] scope pos) 0 (.ref it) (.ref D) ce) (compPost (model X.prog X.w) X.A X.xe use Qf (.ref D) s3.heap.objs.size) s4 := by
    refine compLoop_anyD (fun n s' => ∃ i H', Inv (X.blk s3 H3 scope ce fp) [] (wipe σ (own.map (·.2))) H' s' ∧ tn i s'.heap ∧ (∀ b ∈ fp, H' b = none) ∧ W i n H') ?_ m0 ⟨0, H3, I4, st4, nfp, w0⟩
    rintro n s5 ⟨i, H5, I5, st5, n5, w5⟩
    rcases turn i n H5 w5 with ⟨stop, qq⟩ | ⟨go, Nx, hNx, step⟩
    · refine thnF (T.done (X.blk s3 H3 scope ce fp) rfl rfl rfl hc i [] s5 _ H5 (fun _ _ => False) I5 (stat I5 n5) st5 stop) fun r s6 ⟨hr, I6⟩ => ?_
      subst hr
      have I7 : Inv X pins σ H5 s6 := I3.call' (ch := fp) I6.os I6.base I6.hok I6.bare fun b hb => ⟨(f3 b hb).1.2.2.2.1, (f3 b hb).1.2.1, (f3 b hb).1.2.2.2.2.1, (f3 b hb).1.2.2.2.2.2⟩
      have nC : H5 s3.heap.objs.size = none := by
        have z : H5 ce.locals = none := I6.free
        rw [cL] at z
        exact z
      obtain ⟨m, hn, _⟩ := I6.loc
      have hn : s6.heap.Ns ce.locals m := hn
      rw [cL] at hn
      exact hRR D s3.heap.objs.size s6 m H5 I7 qq hn (I3.fpOk (Nat.le_refl _) nC)
    · refine thnF (T.item (X.blk s3 H3 scope ce fp) rfl rfl rfl hc i [] s5 _ H5 (fun _ _ => False) I5 (stat I5 n5) st5 go) fun r s6 ⟨u, hr, h6⟩ => ?_
      subst hr
      refine thnF h6 fun _ s7 ⟨x, H7, I7, r7, y7, st7, n7⟩ => ?_
      have I7' := I7.pinned (stat I7 n7) (T.obj _ _ st7)
      refine thnF (pg.run _ s7 _ H7 x u _ I7' r7 (step x H7 y7)) fun _ s8 ⟨σ8, H8, I8, hw8, q8⟩ => ?_
      refine thnF (pt.run _ s8 σ8 H8 _ I8 q8) fun b9 s9 ⟨H9, I9, q9⟩ => ?_
      have fin : ∀ {s' : Shared} {H' : Hp}, Inv (X.blk s3 H3 scope ce fp) ([] ++ pinsAt fp s7.heap) σ8 H' s' → Nx H' → ∃ m, m < n ∧ ∃ i H', Inv (X.blk s3 H3 scope ce fp) [] (wipe σ (own.map (·.2))) H' s' ∧ tn i s'.heap ∧ (∀ b ∈ fp, H' b = none) ∧ W i m H' := fun {s' H'} I' nx => by
        obtain ⟨m', hm, w'⟩ := hNx H' nx
        have pin' : ∀ b ∈ fp, ∀ o, s7.heap.get? b = some o → s'.heap.get? b = some o ∧ H' b = none := fun b hb o e =>
          let z := I'.pin (b, o) (List.mem_append_right _ (List.mem_append_right _ (mem_pinsAt hb e)))
          ⟨z.1, z.2.1⟩
        have hl : (wipe σ (own.map (·.2))).length = σ8.length := by rw [← hw8, wipe_length]
        refine ⟨m', hm, i + 1, H', (I'.unpinned (pins := [])).weak hl (fun j v e => ?_), T.keep _ _ _ st7 fun b hb o e => (pin' b hb o e).1, fun b hb => ?_, w'⟩
        · rw [← hw8] at e
          exact (wipe_some e).1
        · obtain ⟨o, e, _⟩ := T.obj _ _ st7 b hb
          exact (pin' b hb o e).2
      cases b9 with
      | false =>
        simp only [Bool.false_eq_true, if_false] at q9 ⊢
        exact fin I9 q9
      | true =>
        simp only [if_true] at q9 ⊢
        refine thnF (pk.run _ s9 σ8 H9 _ I9 q9) fun z s10 ⟨yk, H10, I10, r10, q10⟩ => ?_
        refine thnF (pe.run _ s10 σ8 H10 _ I10 q10) fun z2 s11 ⟨yv, H11, I11, r11, H12, g, nx⟩ => ?_
        exact put_pair (X := X.blk s3 H3 scope ce fp) hu I11 g r10 r11 fun s12 I12 => fin I12 nx
  exact codeAny_compStart_dict loop (T.self X.A 0 _ _ _ st4 loop)
theorem pe_dcG {b : Bool} {kx vx tg iter : Expr} {ifs : List Expr} {scope : Scope} {own : List (Str × Nat)} {pos : Pos} {wi : TI} {g : TG} {tt : TT} {tk tv : TE} (hu : X.A.units + 1 < cLine) (hc : X.calm = true) (hN : X.N.Nodup) (hi : PI X tg iter wi) (ok : BlkOk X.N X.env.scope scope own)
    (hg : Blk X scope fun X => PG X tg g) (ht : Blk X scope fun X => PTs X ifs tt) (hk : Blk X scope fun X => PE X kx tk) (he : Blk X scope fun X => PE X vx tv) (hs : ∀ x, foldedSetIterable iter X.env x = pure x := by intro _; rfl) :
    PE X (.DictComp kx vx [⟨tg, iter, ifs, 0⟩] scope pos) (tDcG b wi g tt tk tv (own.map (·.2))) := by
  refine ⟨fun pins s σ H Q I h => ?_⟩
  rw [arm_eval_DictComp]
  refine dcG_core hu hc hN I hi ok hg ht hk he hs h fun D C s' m H' I' q hn f => ⟨m, hn, fun h'' sb => ?_⟩
  obtain ⟨f0, f1, f2, f3, f4, f5⟩ := f
  exact ⟨.ref D, H', I'.turned (t' := s'.toks) (fun b o hb e => (sb.2 b hb).trans e) f0 f1 f3 f4 f5, rfl, q⟩
/-- name = {..} on one line -/
theorem ps_setDcG {b : Bool} {i : Nat} {y : Str} {py : Pos} {kx vx tg iter : Expr} {ifs : List Expr} {scope : Scope} {own : List (Str × Nat)} {pos spos : Pos} {wi : TI} {g : TG} {tt : TT} {tk tv : TE} (hu : X.A.units + 1 < cLine) (hc : X.calm = true) (hN : X.N.Nodup) (hy : X.N[i]? = some y) (hyl : X.env.scope.names.lookup y = some .local)
    (hsw : swapsWith (.DictComp kx vx [⟨tg, iter, ifs, 0⟩] scope pos) (some (.Name y py)) spos.line X.env = pure true) (hi : PI X tg iter wi) (ok : BlkOk X.N X.env.scope scope own)
    (hg : Blk X scope fun X => PG X tg g) (ht : Blk X scope fun X => PTs X ifs tt) (hk : Blk X scope fun X => PE X kx tk) (he : Blk X scope fun X => PE X vx tv) (hs : ∀ x, foldedSetIterable iter X.env x = pure x := by intro _; rfl) :
    PS X (.Assign [.Name y py] (.DictComp kx vx [⟨tg, iter, ifs, 0⟩] scope pos) spos) (tAsg (tDcG b wi g tt tk tv (own.map (·.2))) (gName i)) := by
  refine ⟨fun pins s σ H D I h => ?_⟩
  rw [exec_Assign_Name_used _ _ _ _ hsw]
  refine wpAny_bind (wpAny_standAt (wpAny_bind ?_))
  show wpAny _ X.A (do let _ ← comprehension (.DictComp kx vx [⟨tg, iter, ifs, 0⟩] scope pos) scope X.env (firstIterPos [⟨tg, iter, ifs, 0⟩] pos) newDict false (eval iter X.env) (some (assign (.Name y py) X.env))) _ _ s
  have h : tDcG b wi g tt tk tv (own.map (·.2)) σ H (fun x H1 => gName i x σ H1 D.nx) := h
  refine wpAny_bind (thn (dcG_core (Qf := fun _ s' => SP X pins D .next s') hu hc hN I hi ok hg ht hk he hs h fun L C s' m H' I' q hn f => ?_) fun _ s' hq => wpAny_pure (wpAny_pure hq))
  show wpAny _ _ (assign (.Name y py) X.env (.ref L)) _ _ _
  refine wpAny_assign_Name (store_ok2 (v := V.ref L) I' hN hy (.inl hyl) rfl (fun s2 I2 ⟨a, sb, ha⟩ => ?_) (.inr hyl))
  obtain ⟨f0, f1, f2, f3, f4, f5⟩ := f
  have haC : C ≠ a := by
    rcases ha with z | z
    · rw [z]; exact f1
    · exact fun e => f4 y a z e.symm
  refine ⟨m, hn.sameBut sb haC, fun h3 sb3 => ?_⟩
  exact ⟨_, H', I2.turned (t' := s2.toks) (fun b o hb e => (sb3.2 b hb).trans e) f0 f1 f3 f4 f5, q⟩
end

/-! ### a new thing that grows -/
structure Og (K : PySem.W.Frag) (pt : Option Addr) (F2 R : Hp) (D : Addr) (F H : Hp) (o : PV.D) : Prop where
  fr : Fr pt F2 R F H
  np : pt ≠ some D
  rn : R D = none
  fn : F D = none
  ob : ObR K F H D o
theorem Og.go {K : PySem.W.Frag} {pt : Option Addr} {F2 R F H F' H' : Hp} {D : Addr} {o : PV.D} (l : Og K pt F2 R D F H o) (f : Fr pt F (hid H pt) F' H') : Og K pt F2 R D F' H' o := by
  obtain ⟨u, hu, nt⟩ := l.ob.notup
  have hh : hid H pt D = some u := by rw [hid_ne l.np]; exact hu
  refine ⟨l.fr.trans f, l.np, l.rn, ?_, l.ob.mono f.ff fun u' hu' => f.rh D _ (by rw [hid_ne l.np]; exact hu')⟩
  rcases f.fn D (by rw [hh]; exact fun z => nomatch z) with q | ⟨xs, q⟩
  · rw [q]; exact l.fn
  · rw [hh] at q; cases q; exact absurd rfl (nt xs)
theorem Og.mut {K : PySem.W.Frag} {pt : Option Addr} {F2 R F H : Hp} {D : Addr} {o o' : PV.D} {u : HO} (l : Og K pt F2 R D F H o) (h : ObR K F (upd H D u) D o') : Og K pt F2 R D F (upd H D u) o' :=
  ⟨l.fr.mut l.rn l.np l.fn, l.np, l.rn, l.fn, h⟩
theorem Og.new {K : PySem.W.Frag} {pt : Option Addr} {F2 H2 : Hp} {D : Addr} (b : Bool) (f : Fr pt F2 (hid H2 pt) F2 H2) (h : H2 D = none) : Og K pt F2 (hid H2 pt) D F2 (upd H2 D (emptyH b)) (emptyD b) := by
  obtain ⟨h1, h2, h3⟩ := f.fresh h
  refine ⟨f.new h, h2, h1, h3, ?_⟩
  cases b with
  | true => exact ⟨[], upd_same, .nil⟩
  | false => exact ⟨[], upd_same, .nil⟩
def kd (t : Rho → M Bool) (ek ev : EX) : Rho → D → M D := fun ρ o => bnd (t ρ) fun b => if b = true then bnd (rdv ek ρ) fun k => bnd (fzv ev ρ) fun v => opt (putO o k v) else ret o
def dcE (b : Bool) (w : WX) (tg : TX) (k : Rho → D → M D) (vs : List Nat) : EX := fun ρ => bnd (w ρ) fun xs => bnd (wGo tg k (inb vs ρ) xs (emptyD b)) fun o => ret (.fr o)
section
variable {X : Cx} {tg iter kx vx : Expr} {ifs : List Expr} {scope : Scope} {own : List (Str × Nat)} {w : WX} {t : TX} {ts : List Nat} {tt : Rho → M Bool} {pk pv' : EX} {pos : Pos}
theorem dc_c {b : Bool} {vs0 : List Nat} (hs : ∀ j ∈ ts, j ∈ vs0) {σ : Sg} {H : Hp} {Q : VK} {B : Bs} {F : Hp} {ρ : Rho} {Q' : Rr → Prop} {J : It} {H2 F2 : Hp} {ds : List D} {D : Addr} (rp : Rp X.K B F σ H ρ) (f : Fr B.pt F (hid H B.pt) F2 H2) (wk : Wk X.K B.pt F2 (stH true B F2 H2) J ds)
    (q0 : wGo t (kd tt pk pv') (inb vs0 ρ) ds (emptyD b) fun o => Q' (.fr o)) (hD : H2 D = none) (k : Kt X B.pt F (hid H B.pt) σ ρ Q' Q) :
    ∃ W : Nat → Nat → Hp → Prop, (∃ m, W 0 m (upd H2 D (emptyH b))) ∧ ∀ i m H, W i m H →
      (J.stop i H ∧ Q (.ref D) H) ∨ (J.go i H ∧ ∃ Nx : Hp → Prop, (∀ H', Nx H' → ∃ m', m' < m ∧ W (i + 1) m' H') ∧ ∀ x H', J.yld i H x H' → lfg X t ts x (wipe σ vs0) H' fun σ2 H2 => wipe σ2 vs0 = wipe σ vs0 ∧ lfT X tt σ2 H2 fun b H3 =>
        if b = true then lft X pk σ2 H3 fun y H4 => lft X pv' σ2 H4 fun z H5 => ∃ H6, DPut H5 D y z H6 ∧ Nx H6 else Nx H3) := by
  obtain ⟨⟨G, Y, W, st, yl⟩, z⟩ := wk
  have rp2 := rp.fra f
  have rp0 := rp2.inn.uns vs0
  refine walk_it W (S := fun Nx x H' => lfg X t ts x (wipe σ vs0) H' fun σ2 H2 => wipe σ2 vs0 = wipe σ vs0 ∧ lfT X tt σ2 H2 fun b H3 =>
      if b = true then lft X pk σ2 H3 fun y H4 => lft X pv' σ2 H4 fun z H5 => ∃ H6, DPut H5 D y z H6 ∧ Nx H6 else Nx H3)
    (fun i H' => ∃ F' o, Og X.K B.pt F2 (hid H2 B.pt) D F' H' o ∧ wGo t (kd tt pk pv') (inb vs0 ρ) (ds.drop i) o fun o => Q' (.fr o))
    ⟨F2, emptyD b, .new b rp2.fr.again hD, q0⟩ (fun i H' _ ⟨F', o, l, _⟩ => st H' ⟨l.fr.ff.trans l.fr.fsame, l.fr.rh⟩) ?_ ?_
  · rintro i x H' H'' hi ⟨F', o, l, q⟩ y
    obtain ⟨F'', d, g, e1, rv⟩ := yl i H' x H'' F' hi y ⟨l.fr.ff.trans l.fr.fsame, l.fr.rh⟩ l.fr.ff l.fr.fh l.fr.pot
    rw [drop_at e1] at q
    obtain ⟨ρ1, e2, q⟩ := opt_ok q
    have l2 := l.go g
    refine ⟨_, F'', _, d, ρ1, rp0.fra l2.fr, rv, e2, fun σ2 r2 on => ⟨on.wipe hs, lfT_of r2 q fun b H3 F3 f3 q3 => ?_⟩⟩
    have l3 := l2.go f3
    cases b with
    | false => exact ⟨F3, o, l3, q3⟩
    | true =>
      rw [if_pos rfl]
      refine lft_rd (r2.fra f3) q3 fun v4 H4 F4 d4 f4 t4 q4 => ?_
      refine lft_fz ((r2.fra f3).fra f4) q4 fun v5 H5 F5 d5 f5 rv5 q5 => ?_
      obtain ⟨o', e5, q6⟩ := opt_ok (f := ret) q5
      have l5 := (l3.go f4).go f5
      obtain ⟨u, hg, ob⟩ := putO_of l5.ob l5.fr.fsame (hid_same (pt := B.pt)) (t4.mono f5.ff f5.rhid) rv5 e5
      exact ⟨_, hg, F5, o', l5.mut ob, q6⟩
  · rintro H' ⟨F', o, l, q⟩
    rw [List.drop_length] at q
    refine k _ H' F' (.fr o) (f.trans l.fr) ⟨D, rfl, ?_, l.np, l.fn, l.ob⟩ q
    cases c : hid H B.pt D with
    | none => rfl
    | some u => rw [f.rh D u c] at hD; cases hD
theorem dc_w {b : Bool} {vs0 : List Nat} (hs : ∀ j ∈ ts, j ∈ vs0) {σ : Sg} {H : Hp} {Q : VK} (q : lft X (dcE b w t (kd tt pk pv') vs0) σ H Q) : tDcG b (lfW X true w) (lfg X t ts) (lfT X tt) (lft X pk) (lft X pv') vs0 σ H Q := by
  obtain ⟨B, F, ρ, Q', rp, hq, k⟩ := q
  exact ⟨B, F, ρ, _, rp, hq, fun J H2 F2 ds f wk q D hD => dc_c hs rp f wk q hD k⟩
theorem px_dc (b : Bool) (hu : X.A.units + 1 < cLine) (hc : X.calm = true) (hN : X.N.Nodup) (hi : WI X true tg iter w) (ok : BlkOk X.N X.env.scope scope own) (hg : Blk X scope fun X => TGt X tg t ts) (ht : Blk X scope fun X => PTS X ifs tt) (hk : Blk X scope fun X => PX X kx pk) (he : Blk X scope fun X => PX X vx pv')
    (hs : ∀ x, foldedSetIterable iter X.env x = pure x := by intro _; rfl) (hsub : ∀ j ∈ ts, j ∈ own.map (·.2) := by decide) : PX X (.DictComp kx vx [⟨tg, iter, ifs, 0⟩] scope pos) (dcE b w t (kd tt pk pv') (own.map (·.2))) :=
  PE.weak (pe_dcG (b := b) (g := lfg X t ts) (tt := lfT X tt) (tk := lft X pk) (tv := lft X pv') hu hc hN hi ok hg ht hk he hs) fun σ H Q q => dc_w hsub q
theorem pp_setDc (b : Bool) {i : Nat} {y : Str} {py spos : Pos} (hu : X.A.units + 1 < cLine) (hc : X.calm = true) (hN : X.N.Nodup) (hi : WI X true tg iter w) (ok : BlkOk X.N X.env.scope scope own) (hg : Blk X scope fun X => TGt X tg t ts) (ht : Blk X scope fun X => PTS X ifs tt) (hk : Blk X scope fun X => PX X kx pk) (he : Blk X scope fun X => PX X vx pv')
    (hy : X.N[i]? = some y := by rfl) (hyl : X.env.scope.names.lookup y = some .local := by kernel_rfl) (hsw : swapsWith (.DictComp kx vx [⟨tg, iter, ifs, 0⟩] scope pos) (some (.Name y py)) spos.line X.env = pure true := by kernel_rfl)
    (hs : ∀ x, foldedSetIterable iter X.env x = pure x := by intro _; rfl) (hsub : ∀ j ∈ ts, j ∈ own.map (·.2) := by decide) : PP X (.Assign [.Name y py] (.DictComp kx vx [⟨tg, iter, ifs, 0⟩] scope pos) spos) (sSet i (dcE b w t (kd tt pk pv') (own.map (·.2)))) :=
  PS.weak (ps_setDcG (b := b) (g := lfg X t ts) (tt := lfT X tt) (tk := lft X pk) (tv := lft X pv') hu hc hN hy hyl hsw hi ok hg ht hk he hs) fun D σ H q => by
    obtain ⟨B, F, ρ, Q', rp, hq, k1, k2, k3, k4⟩ := q
    refine dc_w hsub ⟨B, F, ρ, _, rp, hq, fun v H1 F1 r f q q2 => ?_⟩
    obtain ⟨s, e1, q3⟩ := opt_ok q2
    by_cases hl : i < ρ.length
    · rw [if_pos hl] at q3
      exact k1 _ H1 F1 _ f.ff (rp.set f q e1 hl) q3
    · rw [if_neg hl] at q3; exact q3.elim
end
end PV

set_option Elab.async false
set_option linter.all false
set_option maxRecDepth 100000
set_option maxHeartbeats 1000000
/-! PvN: dict(pairs), d.update(..): keys that are tuples. -/
namespace PV
open PySem PySem.Spec L2

def putAllK {κ : Type} [DecidableEq κ] (l : List (κ × V)) (ps : List (κ × V)) : List (κ × V) := ps.foldl (fun acc p => putK acc p.1 p.2) l
def putAll {κ : Type} [DecidableEq κ] (l : List (κ × D)) (ps : List (κ × D)) : List (κ × D) := ps.foldl (fun acc p => putL acc p.1 p.2) l
theorem KT.all {H : Hp} : ∀ {ps : List (List Key × V)} {zs : List (List Key × Addr × Value)} {kvs : List (List Key × V)} {xs : List (List Key × Addr × Value)}, KT H ps zs → KT H kvs xs → KT H (putAllK kvs ps) (storedAllH xs zs)
  | _, _, _, _, .nil, r => r
  | _, _, kvs, xs, .cons (a := p) (b := z) (l₁ := ps) (l₂ := zs) h t, r => by
    obtain ⟨h1, h2, h3⟩ := h
    have q := KT.all t (r.put p.1 h2 h3)
    show KT H (putAllK (putK kvs p.1 p.2) ps) (storedAllH (storedH xs z.1 z.2.1 z.2.2) zs)
    rw [← h1]
    exact q
theorem RvT.all {K : PySem.W.Frag} {F : Hp} : ∀ {ps : List (List Key × V)} {qs : List (List Ky × D)} {l : List (List Key × V)} {l2 : List (List Ky × D)}, RvT K F ps qs → RvT K F l l2 → RvT K F (putAllK l ps) (putAll l2 qs)
  | _, _, _, _, .nil, r => r
  | _, _, l, l2, .cons (k := k) (v := v) (d := d) (vs := ps) (ds := qs) h t, r => by
    show RvT K F (putAllK (putK l k v) ps) (putAll (putL l2 k d) qs)
    exact RvT.all t (r.put h)
/-- the pairs (tuple, value) of a list, in the heap -/
def PrT (H : Hp) : List Addr → List (List Key × V) → Prop := Paired fun p kv => ∃ c, H p = some (.tup [.ref c, kv.2]) ∧ H c = some (.tup (kv.1.map kV))
theorem prT_of {X : Cx} {pins : List (Addr × Obj)} {σ : Sg} {H : Hp} {s : Shared} (I : Inv X pins σ H s) : ∀ {ps : List Addr} {kvs : List (List Key × V)}, PrT H ps kvs →
    ∃ zs : List (List Key × Addr × Value), KT H kvs zs ∧ zs.length = ps.length ∧ ∀ (j : Nat) z, zs[j]? = some z → ∃ p, ps[j]? = some p ∧ s.heap.IsTuple p #[.ref z.2.1, z.2.2]
  | _, _, .nil => ⟨[], .nil, rfl, fun j z e => by simp at e⟩
  | _, _, .cons (a := p) (b := kv) h t => by
    obtain ⟨zs, r, hl, hz⟩ := prT_of I t
    obtain ⟨c, h1, h2⟩ := h
    obtain ⟨its, rv, ht, _⟩ := I.tuple (SqT.of h1)
    obtain ⟨u, y, ei, ru, ry⟩ := vals2 rv
    subst ei
    cases (show u = Value.ref c from ru)
    obtain ⟨o, ho, hc, n, hd⟩ := id ht
    refine ⟨(kv.1, c, y) :: zs, .cons ⟨rfl, h2, ry⟩ r, by rw [List.length_cons, List.length_cons, hl], fun j z e => ?_⟩
    cases j with
    | zero => have e' : (kv.1, c, y) = z := Option.some.inj e; subst e'; exact ⟨p, rfl, ⟨o, ho, hc, n, hd⟩⟩
    | succ j => obtain ⟨q, e1, e2⟩ := hz j z (by simpa using e); exact ⟨q, by simpa using e1, e2⟩
section
variable {X : Cx} {pins : List (Addr × Obj)} {σ : Sg} {H : Hp} {s : Shared}
/-- what dict(l) and d.update(l) ask of the list l -/
theorem argT (I : Inv X pins σ H s) {b : Addr} {ps : List Addr} {prs : List (List Key × V)} {zs : List (List Key × Addr × Value)} (hl : SqL X.K H b (ps.map V.ref)) (hlen : zs.length = ps.length)
    (hz : ∀ (j : Nat) z, zs[j]? = some z → ∃ p, ps[j]? = some p ∧ s.heap.IsTuple p #[.ref z.2.1, z.2.2]) :
    PlainSeq "list" s.heap b (ps.map Value.ref).toArray ∧ PairItems s.heap (ps.map Value.ref).toArray (fun j => (ps[j]?).getD 0) (zs.map fun z => (Value.ref z.2.1, z.2.2)) := by
  obtain ⟨its, rv, pl, _⟩ := I.list hl
  have ei := refs_at rv
  subst ei
  obtain ⟨o, n, ho, hc, hd, hdat⟩ := pl
  refine ⟨⟨o, n, ho, hc, hd, hdat⟩, by simp [hlen], fun j k v e => ?_⟩
  rw [List.getElem?_map] at e
  obtain ⟨z, e1, e2⟩ := Option.map_eq_some_iff.mp e
  cases e2
  obtain ⟨p, e3, e4⟩ := hz j z e1
  exact ⟨by simp [e3], .inl (by simpa [e3] using e4)⟩
theorem haveT (zs : List (List Key × Addr × Value)) : PairsHaveH (tupleKind (mixKind X.prog X.w)) (zs.map fun z => (Value.ref z.2.1, z.2.2)).length (PairRel (zs.map fun z => (Value.ref z.2.1, z.2.2))) zs := by
  refine ⟨by rw [List.length_map], fun i key v e => ?_⟩
  have e' : (zs.map fun z => (Value.ref z.2.1, z.2.2))[i]? = some (key, v) := e
  rw [List.getElem?_map] at e'
  obtain ⟨⟨k, c, y⟩, e1, e2⟩ := Option.map_eq_some_iff.mp e'
  cases e2
  exact ⟨k, c, e1, rfl⟩
theorem keysT (I : Inv X pins σ H s) {kvs : List (List Key × V)} {xs : List (List Key × Addr × Value)} {d : Addr} (r : KT H kvs xs) (hd : ∀ ys, H d ≠ some (.tup ys)) : KeysStay (tupleKind (mixKind X.prog X.w)) s.heap d [] xs := by
  intro h' hk x hx
  have at_ : ∀ {l : List (List Key × V)} {m : List (List Key × Addr × Value)}, KT H l m → ∀ x ∈ m, H x.2.1 = some (.tup (x.1.map kV)) := by
    intro l m q
    induction q with
    | nil => intro x hx; exact nomatch hx
    | @cons p q ps qs hq t ih =>
      intro x hx
      rcases List.mem_cons.mp hx with e | hx
      · subst e; rw [← hq.1]; exact hq.2.1
      · exact ih x hx
  have e := at_ r x hx
  obtain ⟨_, its, rv, o, h1, h2, n, h3⟩ := (show ObjOk X.prog X.w H s.heap x.2.1 (.tup (x.1.map kV)) from I.hok _ _ e)
  exact ⟨o, its.toArray, n, hk _ _ (fun z => hd _ (z ▸ e)) (by simp) h1, h2, h3, by simpa using items_are rv⟩
end
theorem putAllK_len {κ : Type} [DecidableEq κ] (ps : List (κ × V)) : ∀ l : List (κ × V), (putAllK l ps).length ≤ l.length + ps.length := by
  induction ps with
  | nil => intro l; exact Nat.le_refl _
  | cons p ps ih =>
    intro l
    have h1 := ih (putK l p.1 p.2)
    have h2 := length_putK l p.1 p.2
    show (putAllK (putK l p.1 p.2) ps).length ≤ _
    rw [List.length_cons]
    omega
section
variable {X : Cx}
/-- d.update([(k, v), ..]) -/
def rUpL (K : PySem.W.Frag) : V → List V → Hp → VK → Prop := fun x vs H Q => ∃ a b kvs ps prs, x = .ref a ∧ vs = [.ref b] ∧ a ≠ b ∧ H a = some (.dT kvs) ∧ SqL K H b (ps.map V.ref) ∧ PrT H ps prs ∧ kvs.length + prs.length ≤ sizeLine ∧ Q .non (upd H a (.dT (putAllK kvs prs)))
theorem mt_upL (hc : X.calm = true) (hu : X.A.units + 2 < cLine) : MtR X "dict.update" (rUpL X.K) := by
  intro pins s σ H x vs v us Q I rx rv h
  obtain ⟨a, b, kvs, ps, prs, rfl, rfl, hab, ha, hb, hp, hz, q⟩ := h
  cases rx
  obtain ⟨u, rfl, ru⟩ := rv.one
  cases ru
  obtain ⟨zs, kt, hl, hz2⟩ := prT_of I hp
  obtain ⟨z, hd, xs, rel, dd⟩ := dt_of I.hok ha
  have l1 : prs.length = zs.length := Paired.length kt
  have l2 : kvs.length = xs.length := Paired.length rel
  have noTup : ∀ ys, H a ≠ some (.tup ys) := fun ys e => by rw [ha] at e; cases e
  refine call_update_pairsH (A := X.A) (knd := tupleKind (mixKind X.prog X.w)) (PairArg.list b (ps.map Value.ref).toArray (fun j => (ps[j]?).getD 0) (zs.map fun z => (Value.ref z.2.1, z.2.2))) (I.ok.hd hc) (tupleKind_room_in1 (by omega))
    (argT I (prs := prs) hb hl hz2) ?_ (haveT zs) ?_ dd (by rw [List.length_map]; omega) fun h' tk dd' hk => ?_
  · intro hm
    rcases List.mem_cons.mp hm with e | hm
    · exact hab e
    · obtain ⟨j, hj, e⟩ := List.mem_map.mp hm
      rw [List.length_map, List.mem_range] at hj
      obtain ⟨w, hw⟩ : ∃ w, zs[j]? = some w := ⟨zs[j], List.getElem?_eq_getElem hj⟩
      obtain ⟨p, e1, e2⟩ := hz2 j w hw
      have e' : (ps[j]?).getD 0 = a := e
      rw [e1] at e'
      have e' : p = a := e'
      subst e'
      obtain ⟨o, h1, h2, _⟩ := e2
      obtain ⟨o', _, _, h3, h4, _⟩ := dd
      rw [h1] at h3
      cases h3
      have h6 : o.cls = .type "dict" := h4.1
      rw [h2] at h6
      exact absurd h6 (by decide)
  · intro h' hk x hx
    rcases List.mem_append.mp hx with hx | hx
    · exact keysT I rel noTup h' hk x hx
    · exact keysT I kt noTup h' hk x hx
  · obtain ⟨q', es, ep, hq, h2, h3, h4, _, h5⟩ := dd'
    have hl' : (putAllK kvs prs).length ≤ sizeLine := Nat.le_trans (putAllK_len prs kvs) hz
    refine ⟨.non, _, I.write (x := a) (e := a) (t' := tk) (by rw [ha]; exact True.intro) (.inl rfl) (fun c oc hc e => hk c oc hc (by simp) e) ⟨q', hq⟩ (show ObjOk X.prog X.w _ _ _ (.dT (putAllK kvs prs)) from ⟨hl', hd, _, (KT.all kt rel).keeps fun c ys ec => by rw [upd_ne (ne_of ec ha (fun z => nomatch z))]; exact ec, q', es, ep, hq, h2, h3, h4, h5⟩), rfl, q⟩
/-- d.update(d2), d not empty -/
def rUpD : V → List V → Hp → VK → Prop := fun x vs H Q => ∃ a b kvs more, x = .ref a ∧ vs = [.ref b] ∧ a ≠ b ∧ H a = some (.dT kvs) ∧ H b = some (.dT more) ∧ kvs ≠ [] ∧ kvs.length + more.length ≤ sizeLine ∧ Q .non (upd H a (.dT (putAllK kvs more)))
theorem mt_upD (hu : X.A.units + 2 < cLine) : MtR X "dict.update" rUpD := by
  intro pins s σ H x vs v us Q I rx rv h
  obtain ⟨a, b, kvs, more, rfl, rfl, hab, ha, hb, hne, hz, q⟩ := h
  cases rx
  obtain ⟨u, rfl, ru⟩ := rv.one
  cases ru
  obtain ⟨z, hd, xs, rel, dd⟩ := dt_of I.hok ha
  obtain ⟨z2, hd2, ys, rel2, dd2⟩ := dt_of I.hok hb
  have l1 : more.length = ys.length := Paired.length rel2
  have l2 : kvs.length = xs.length := Paired.length rel
  have hne' : xs ≠ [] := fun e => hne (List.length_eq_zero_iff.mp (by rw [l2, e]; rfl))
  refine call_update_dictH (A := X.A) (knd := tupleKind (mixKind X.prog X.w)) (tupleKind_room_in1 (by omega)) hab hd2 dd dd2 (.inl hne') (by omega) fun h' dd' _ hs => ?_
  obtain ⟨q', es, ep, hq, h2, h3, h4, _, h5⟩ := dd'
  have hl' : (putAllK kvs more).length ≤ sizeLine := Nat.le_trans (putAllK_len more kvs) hz
  refine ⟨.non, _, I.write (x := a) (e := a) (t' := s.toks) (by rw [ha]; exact True.intro) (.inl rfl) (fun c oc hc e => (hs.2 c hc).trans e) ⟨q', hq⟩ (show ObjOk X.prog X.w _ _ _ (.dT (putAllK kvs more)) from ⟨hl', hd, _, (KT.all rel2 rel).keeps fun c ys ec => by rw [upd_ne (ne_of ec ha (fun z => nomatch z))]; exact ec, q', es, ep, hq, h2, h3, h4, h5⟩), rfl, q⟩
/-- dict([(k, v), ..]), the keys tuples -/
def rDictT (K : PySem.W.Frag) : List V → Hp → VK → Prop := fun vs H Q => ∃ b ps prs, vs = [.ref b] ∧ SqL K H b (ps.map V.ref) ∧ PrT H ps prs ∧ prs.length ≤ sizeLine ∧ ∀ p, H p = none → Q (.ref p) (upd H p (.dT (putAllK [] prs)))
theorem call_dictT (hc : X.calm = true) (hu : X.A.units + 3 < cLine) : CallR X (.type "dict") (rDictT X.K) := by
  intro pins s σ H xs us Q I r q
  obtain ⟨b, ps, prs, rfl, hb, hp, hz, q⟩ := q
  obtain ⟨u, rfl, ru⟩ := vals1 r
  cases ru
  obtain ⟨zs, kt, hl, hz2⟩ := prT_of I hp
  have l1 : prs.length = zs.length := Paired.length kt
  have hn : H s.heap.objs.size = none := I.hok.fresh (Nat.le_refl _)
  refine PySem.call_dict_pairsH (A := X.A) (knd := tupleKind (mixKind X.prog X.w)) (PairArg.list b (ps.map Value.ref).toArray (fun j => (ps[j]?).getD 0) (zs.map fun z => (Value.ref z.2.1, z.2.2))) (I.ok.hd hc) (tupleKind_room_in1 (show X.A.in1.units + 1 < cLine from by rw [Around.in1_units]; omega)) (argT I (prs := prs) hb hl hz2) (haveT zs) (keysT I kt fun ys e => by rw [hn] at e; cases e) (by rw [List.length_map]; omega) fun h' tk dd' hk => ?_
  have hm : (s.heap.objs.size == sysModules) = false := beq_eq_false_iff_ne.mpr (Nat.ne_of_gt I.big)
  obtain ⟨q', es, ep, hq, h2, h3, h4, _, h5⟩ := dd'
  have hl' : (putAllK [] prs).length ≤ sizeLine := Nat.le_trans (putAllK_len prs []) (by simpa using hz)
  refine ⟨.ref s.heap.objs.size, upd H s.heap.objs.size (.dT (putAllK [] prs)), I.laid (t' := tk) (fun c oc e => hk c oc (by simp) e) (Nat.le_refl _) (show ObjOk X.prog X.w _ _ _ (.dT (putAllK [] prs)) from ⟨hl', hm, _, (KT.all kt .nil).keeps fun c ys ec => ?_, q', es, ep, hq, h2, h3, h4, h5⟩), rfl, q _ hn⟩
  rw [upd_ne (ne_of_none ec hn)]
  exact ec
end

/-! ### as rules -/
/-- the pairs of a list: keys tuples -/
def prsT : List D → Option (List (List Ky × D))
  | [] => some []
  | .tuple [k, v] :: r => match tkOf k, prsT r with
    | some k, some ps => some ((k, v) :: ps)
    | _, _ => none
  | _ => none
theorem prsT_of {K : PySem.W.Frag} {F H : Hp} (sm : Same F H) : ∀ {ds : List D} {vs : List V} {qs : List (List Ky × D)}, RvL K F vs ds → prsT ds = some qs → ∃ (ps : List Addr) (prs : List (List Key × V)), vs = ps.map V.ref ∧ PrT H ps prs ∧ RvT K F prs qs ∧ prs.length = ds.length
  | [], _, qs, r, e => by cases r; cases e; exact ⟨[], [], rfl, .nil, .nil, rfl⟩
  | d :: ds, _, qs, r, e => by
    cases r with
    | @cons v vs _ _ h t =>
      cases d with
      | tuple xs =>
        match xs, h, e with
        | [k, y], h, e =>
          have e' : (match tkOf k, prsT ds with | some k, some ps => some ((k, y) :: ps) | _, _ => none) = some qs := e
          cases e1 : tkOf k with
          | none => rw [e1] at e'; cases e'
          | some kk =>
            cases e2 : prsT ds with
            | none => rw [e1, e2] at e'; cases e'
            | some qs' =>
              rw [e1, e2] at e'
              cases e'
              obtain ⟨ps, prs, rfl, h1, h2, h3⟩ := prsT_of sm t e2
              cases h with
              | @tup a _ _ ha hr _ =>
                cases hr with
                | @cons vk _ _ _ hk hr =>
                  cases hr with
                  | @cons vy _ _ _ hy hr =>
                    cases hr
                    cases k with
                    | tuple ks =>
                      cases hk with
                      | @tup c ws _ hc hw _ =>
                        have ex := kys_of hw e1
                        subst ex
                        exact ⟨a :: ps, (kk, vy) :: prs, rfl, .cons ⟨c, sm _ _ ha, sm _ _ hc⟩ h1, .cons hy h2, by rw [List.length_cons, List.length_cons, h3]⟩
                    | _ => cases e1
        | [], _, e => cases e
        | [_], _, e => cases e
        | _ :: _ :: _ :: _, _, e => cases e
      | _ => cases e
/-- d.update of a new list of pairs, of a new dict; dict(a list of pairs) -/
def updL (o y : D) : Option D := match o, y with
  | .dt l, .list ds => if l.length + ds.length ≤ lim then (prsT ds).map fun qs => .dt (putAll l qs) else none
  | _, _ => none
def updDt (o y : D) : Option D := match o, y with
  | .dt l, .dt l' => if l ≠ [] ∧ l.length + l'.length ≤ lim then some (.dt (putAll l l')) else none
  | _, _ => none
section
variable {X : Cx}
theorem m_updL : Mut2 X (rUpL X.K) updL := by
  intro F H a b o d o' Q sm ne h hb e k
  cases o with
  | dt l2 =>
    cases d with
    | list ds =>
      obtain ⟨l, h1, h2⟩ := h
      obtain ⟨ws, h3, h4, z2⟩ := hb
      have e' : (if l2.length + ds.length ≤ lim then (prsT ds).map (fun qs => D.dt (putAll l2 qs)) else none) = some o' := e
      by_cases c : l2.length + ds.length ≤ lim
      · rw [if_pos c] at e'
        obtain ⟨qs, e1, e2⟩ := Option.map_eq_some_iff.mp e'
        subst e2
        obtain ⟨ps, prs, rfl, g1, g2, g3⟩ := prsT_of sm h4 e1
        exact ⟨a, b, l, ps, prs, rfl, rfl, ne, h1, SqL.of h3, g1, by rw [h2.length, g3, sizeLine_eq]; exact c, k _ ⟨_, upd_same, g2.all h2⟩⟩
      · rw [if_neg c] at e'; cases e'
    | _ => cases e
  | _ => cases d <;> cases e
theorem m_updD : Mut2 X rUpD updDt := by
  intro F H a b o d o' Q sm ne h hb e k
  cases o with
  | dt l2 =>
    cases d with
    | dt l3 =>
      obtain ⟨l, h1, h2⟩ := h
      obtain ⟨more, h3, h4⟩ := hb
      have e' : (if l2 ≠ [] ∧ l2.length + l3.length ≤ lim then some (D.dt (putAll l2 l3)) else none) = some o' := e
      by_cases c : l2 ≠ [] ∧ l2.length + l3.length ≤ lim
      · rw [if_pos c] at e'
        cases e'
        exact ⟨a, b, l, more, rfl, rfl, ne, h1, h3, fun z => c.1 (List.length_eq_zero_iff.mp (by rw [← h2.length, z]; rfl)), by rw [h2.length, h4.length, sizeLine_eq]; exact c.2, k _ ⟨_, upd_same, h4.all h2⟩⟩
      · rw [if_neg c] at e'; cases e'
    | _ => cases e
  | _ => cases d <;> cases e
def updA (o y : D) : Option D := match y with
  | .list _ => updL o y
  | _ => updDt o y
def rUpA (K : PySem.W.Frag) : V → List V → Hp → VK → Prop := fun x vs H Q => rUpL K x vs H Q ∨ rUpD x vs H Q
theorem mt_upA (hc : X.calm = true) (hu : X.A.units + 2 < cLine) : MtR X "dict.update" (rUpA X.K) := (mt_upL hc hu).or (mt_upD hu)
theorem m_upd : Mut2 X (rUpA X.K) updA := by
  intro F H a b o d o' Q sm ne h hb e k
  cases d with
  | list ds => exact .inl (m_updL F H a b o _ o' Q sm ne h hb e k)
  | _ => exact .inr (m_updD F H a b o _ o' Q sm ne h hb e k)
variable {e : Expr} {p : EX} {pos cpos apos opos : Pos} {x : Str}
theorem pp_update (i : Nat) (hc : X.calm = true) (hu : X.A.units + 2 < cLine) (he : PX X e p) (hN : X.N[i]? = some x := by rfl) (hv : Vis X.env.scope x := by first | exact Or.inl rfl | exact Or.inr (Or.inl rfl) | exact Or.inr (Or.inr rfl)) (hd : (x == ("__debug__" : Str)) = false := by decide) (hcd : (x == ("__classdict__" : Str)) = false := by decide)
    (hbase : attributeBase (.Name x opos) "update" X.env (eval (.Name x opos) X.env) = eval (.Name x opos) X.env := by rfl)
    (hfew : ((backTo cpos (starEach (e :: []) X.env)).all (fun x => !x.1) && (backToKw cpos (keywordEach [] X.env)).all (fun x => x.1.isSome)
      && decide ((e :: []).length + ([] : List Keyword).length + (if ([] : List Keyword).isEmpty then 0 else 1) < 30)) = true := by rfl)
    (hline : (apos.endLine == cpos.line) = true := by rfl) (hs : starEach (e :: []) X.env = (false, eval e X.env) :: starEach [] X.env := by rfl) (hplain : (backTo cpos (starEach [] X.env)).any (·.1) = false := by rfl) (hsw : swapsWith (.Call (.Attribute (.Name x opos) "update" apos) [e] [] cpos) none pos.line X.env = pure false := by kernel_rfl) :
    PP X (.Expr (.Call (.Attribute (.Name x opos) "update" apos) [e] [] cpos) pos) (sOwn2 "dict" i p updA) :=
  PS.weak (ps_expr (pe_bm PySem.F.plainAttrs_dict PySem.F.slot_dict_update PySem.F.type_dict_update (mt_upA hc hu) (L2.pv i hN hv hd hcd) (pa_cons he pa_nil hs) hbase hfew hline hs hplain) hsw) fun _ _ _ q => own2_w m_upd q
def dictD : D → Option D
  | .list ds => (prsT ds).map fun qs => .dt (putAll [] qs)
  | _ => none
theorem o_dictT : Op1 X (fun x H Q => rDictT X.K [x] H Q) (nw dictD) := by
  intro pt F R F1 H1 σ ρ x d Q Q' f t q k
  obtain ⟨z, e, q⟩ := opt_ok q
  cases d with
  | list ds =>
    obtain ⟨a, vs, rfl, h1, h2, hz⟩ := t
    obtain ⟨qs, e1, e2⟩ := Option.map_eq_some_iff.mp (show (prsT ds).map (fun qs => D.dt (putAll [] qs)) = some z from e)
    subst e2
    obtain ⟨ps, prs, rfl, g1, g2, g3⟩ := prsT_of f.fsame h2 e1
    exact ⟨a, ps, prs, rfl, Same.sq hid_same h1, g1, by rw [g3]; exact hz, fun p hp => Kt.dt k f hp (g2.all .nil) q⟩
  | _ => cases e
end
end PV

set_option Elab.async false
set_option linter.all false
set_option maxRecDepth 100000
set_option maxHeartbeats 1000000
/-! PvQ: the pairs of a locked dict whose keys are tuples; enumerate(l, k). -/
namespace PV
open PySem PySem.Spec L2

/-- the pairs, each in a new tuple: the key's own tuple, the value -/
def Itit (d : Addr) (o : Obj) (kvs : List (List Key × V)) : It :=
  ⟨fun i H => H d = some (.frz o (.dT kvs)) ∧ i < kvs.length, fun i H x H' => ∃ T k v q, kvs[i]? = some (k, v) ∧ H q = some (.tup (k.map kV)) ∧ x = .ref T ∧ H T = none ∧ H' = upd H T (.tup [.ref q, v]), fun i H => H d = some (.frz o (.dT kvs)) ∧ kvs.length ≤ i⟩
section
variable {X : Cx} {pins : List (Addr × Obj)} {σ : Sg} {H : Hp} {s : Shared} {d : Addr} {o : Obj}
theorem frzT2 {kvs : List (List Key × V)} (I : L2.Inv X pins σ H s) (h : H d = some (.frz o (.dT kvs))) :
    (d == sysModules) = false ∧ s.heap.get? d = some o ∧ o.ExactDict ∧ ∃ (es : Array DictEntry) (ep : Nat), o.data = .dict es ep ∧ es.size = kvs.length ∧
      ∀ (i : Nat) (k : List Key) (v : V), kvs[i]? = some (k, v) → ∃ (en : DictEntry) (q : Addr), es[i]? = some en ∧ en.key = .ref q ∧ H q = some (.tup (k.map kV)) ∧ RelV v en.val := by
  obtain ⟨hd, z, hs, xs, pr, o', es, ep, ho, hx, hdt, he, _⟩ := I.hok d _ h
  rw [hd] at ho
  cases ho
  refine ⟨hs, hd, hx, es, ep, hdt, ?_, fun i k v e => ?_⟩
  · have l1 : es.size = xs.length := size_of_entries he
    have l2 : kvs.length = xs.length := Paired.length pr
    omega
  · obtain ⟨b, hb, e1, e2, e3⟩ := paired_get pr e
    have q := entry_at he i
    rw [hb] at q
    exact ⟨_, b.2.1, q, rfl, e2, e3⟩
end
section
variable {P : Program} {w : World} {K : PySem.W.Frag} {d : Addr} {o : Obj} {es : Array DictEntry} {ep : Nat}
theorem turn_itemsT {kvs : List (List Key × V)} {elts : List Expr} {kk : Nat} {tpos : Pos} (it : Addr) (hod : o.data = .dict es ep) :
    Turn P w K (.Tuple elts kk tpos) (Itit d o kvs) [it] it (fun i h => ∃ ok ov, IsItemIter h it d i kvs.length ep ok ov) where
  mem := by simp
  obj := fun i h st b hb => by
    have e : b = it := by simpa using hb
    subst e
    obtain ⟨ok, ov, e⟩ := st
    exact ⟨_, e, fun v z => nomatch z⟩
  keep := fun i h h' st k => let ⟨ok, ov, e⟩ := st; ⟨ok, ov, k it (by simp) _ e⟩
  item := by
    intro X hP hw hK hc i pins s σ H E I hf st hg
    subst hP hw hK
    obtain ⟨hd, hi⟩ := hg
    obtain ⟨hs, hgd, hx, es', ep', hdt, hsz, ent⟩ := frzT2 I hd
    obtain ⟨rfl, rfl⟩ := dict_ep hod hdt
    obtain ⟨⟨k, v⟩, hkv⟩ : ∃ p, kvs[i]? = some p := ⟨kvs[i], List.getElem?_eq_getElem hi⟩
    obtain ⟨en, q, hen, hkey, hq, hval⟩ := ent i k v hkv
    obtain ⟨hlt', hen'⟩ := Array.getElem?_eq_some_iff.mp hen
    obtain ⟨ok, ov, he⟩ := st
    rw [← hsz] at he
    have hlt : it < s.heap.objs.size := Heap.lt_size he
    refine wpAny_pyNext_items_item_raw he ⟨o, hgd, hx, hod⟩ hlt' fun h' ho hT hz hk => ?_
    rw [hen'] at ho hT
    refine ⟨_, rfl, wpAny_letOwnedTupleGo_items (s := { s with heap := h' }) ho fun h'' he' sb => ?_⟩
    have hT2 : h''.get? s.heap.objs.size = some { cls := .type "tuple", data := .seq #[en.key, en.val] } := (sb.2 _ (Nat.ne_of_gt hlt)).trans hT
    have new : ObjOk X.prog X.w (upd H s.heap.objs.size (.tup [.ref q, v])) h'' s.heap.objs.size (.tup [.ref q, v]) :=
      ⟨by show 2 ≤ sizeLine; decide, [en.key, en.val], .cons hkey (.cons hval .nil), ⟨_, hT2, rfl, _, rfl⟩⟩
    have I1 : L2.Inv X pins σ (upd H s.heap.objs.size (.tup [.ref q, v])) { s with heap := h'' } :=
      I.turnedNew (t' := s.toks) (ch := [it]) (fun b ob hb e => (sb.2 b (by simpa using hb)).trans (hk b ob (by simpa using hb) e)) hf (Nat.le_refl _) new
    refine ⟨.ref s.heap.objs.size, _, I1, rfl, ⟨_, k, v, q, hkv, hq, rfl, I.hok.fresh (Nat.le_refl _), rfl⟩, ⟨en.key, en.val, ?_⟩, fun b hb => ?_⟩
    · rw [← hsz]; exact he'
    · have e : b = it := by simpa using hb
      rw [e, upd_ne (Nat.ne_of_lt hlt)]
      exact (hf it (by simp)).1
  done := by
    intro X hP hw hK hc i pins s σ H E I hf st hg
    subst hP hw hK
    obtain ⟨hd, hi⟩ := hg
    obtain ⟨f0, f1, f2, f3, f4, f5⟩ := hf it (by simp)
    obtain ⟨hs, hgd, hx, es', ep', hdt, hsz, ent⟩ := frzT2 I hd
    obtain ⟨rfl, rfl⟩ := dict_ep hod hdt
    obtain ⟨ok, ov, he⟩ := st
    rw [← hsz] at he
    exact wpAny_pyNext_items_end_raw (I.ok.hd hc) he ⟨o, hgd, hx, hod⟩ (by omega) fun h' eb => ⟨rfl, I.turned (t' := s.toks) (fun b ob hb e => eb b ob hb e) f0 f1 f3 f4 f5⟩
  self := fun A i s Q E st h => by obtain ⟨ok, ov, e⟩ := st; exact wpAny_pyIter_itemiter e h
end
def iItemsT (td : TE) : TI := fun σ H R => td σ H fun x H1 => ∃ d o kvs, x = .ref d ∧ H1 d = some (.frz o (.dT kvs)) ∧ R (Itit d o kvs) H1
section
variable {X : Cx} {e : Expr} {td : TE} {apos cpos : Pos}
theorem pi_itemsT {elts : List Expr} {kk : Nat} {tpos : Pos} (he : PE X e td) (hbase : attributeBase e "items" X.env (eval e X.env) = eval e X.env := by rfl) (hline : (apos.endLine == cpos.line) = true := by rfl) :
    PI X (.Tuple elts kk tpos) (.Call (.Attribute e "items" apos) [] [] cpos) (iItemsT td) := by
  refine ⟨fun pins s σ H R I h => ?_⟩
  refine wpAny_Call_method (T := "dict") (id := "dict.items") hbase rfl hline F.plainAttrs_dict F.slot_dict_items F.type_dict_items (thn (he.run pins s σ H _ I h) fun u s1 ⟨x, H1, I1, rx, d, o, kvs, ex, hd, q⟩ => ?_)
  subst ex
  obtain rfl : u = Value.ref d := rx
  obtain ⟨hs, hgd, hx, es, ep, hdt, hsz, ent⟩ := frzT2 I1 hd
  have ht : s1.TypeIs (.ref d) "dict" := ⟨o, hgd, hx.1⟩
  refine ⟨ht, fun a e => by cases e; exact ⟨o, hgd, hx.2.1⟩, ?_⟩
  have I2 : L2.Inv X pins σ H1 { s1 with heap := s1.heap.push { cls := .type "dict_items", data := .fields #[.ref d] } } := I1.kept (t' := s1.toks) fun b ob q => Heap.get?_push_of_some _ q
  have fin : wpAny (model X.prog X.w) X.A (pyIter (.ref s1.heap.objs.size)) (PIE X pins σ (.Tuple elts kk tpos) R) X.xe { s1 with heap := s1.heap.push { cls := .type "dict_items", data := .fields #[.ref d] } } := by
    refine wpAny_pyIter_items_raw (d := d) ⟨_, Heap.get?_push_size _ rfl, rfl, rfl⟩ ⟨o, Heap.get?_push_of_some _ hgd, hx, hdt⟩ (pi_one (tk := s1.toks) I2 _ (turn_itemsT _ hdt) ⟨.none, .none, ?_⟩ q)
    rw [← hsz]
    exact Heap.get?_push_size _ rfl
  show wpAny _ _ (callWith cpos (.builtin "dict.items") [.ref d] [] []) _ X.xe s1
  exact method_meetsIn F.slot_dict_items F.entry_dict_items rfl (PySem.evalArgs_none ⟨rfl, ht, F.args_dict_items_1 _, _, meets_dict_items_raw d hs, ⟨⟨es, ep, o, hgd, hx, hdt⟩, fin⟩⟩)
end

/-! ### a dict of one's own, locked -/
theorem TopR.rdm {K : PySem.W.Frag} {F G G' : Hp} {v : V} {d : D} (g : ∀ c u, Rd G c u → Rd G' c u) (h : TopR K F G v d) : TopR K F G' v d := by
  cases d with
  | list ds => obtain ⟨a, xs, e1, h1, h2, z⟩ := h; exact ⟨a, xs, e1, h1.elim (fun h => .inl (g _ _ h)) .inr, h2, z⟩
  | dk => obtain ⟨a, l, e1, h1, h2⟩ := h; exact ⟨a, l, e1, g _ _ h1, h2⟩
  | dt => obtain ⟨a, l, e1, h1, h2⟩ := h; exact ⟨a, l, e1, g _ _ h1, h2⟩
  | _ => exact h
section
variable {K : PySem.W.Frag} {pt : Option Addr} {F H : Hp} {a : Addr} {od : Obj} {u : HO}
theorem lock_rd (ha : H a = some u) (np : pt ≠ some a) : ∀ c w, Rd (hid H pt) c w → (c = a → w = u) → Rd (hid (upd H a (.frz od u)) pt) c w := by
  intro c w h hw
  by_cases hc : c = a
  · subst hc
    rw [hw rfl]
    exact .inr ⟨od, by rw [hid_ne np, upd_same]⟩
  · rcases h with h | ⟨o, h⟩
    · obtain ⟨n, h⟩ := hid_some h
      exact .inl (by rw [hid_ne n, upd_ne hc]; exact h)
    · obtain ⟨n, h⟩ := hid_some h
      exact .inr ⟨o, by rw [hid_ne n, upd_ne hc]; exact h⟩
theorem lock_rp {B : Bs} {σ : Sg} {ρ : Rho} {i : Nat} {l2 : List (List Ky × D)} {l : List (List Key × V)} (rp : Rp K B F σ H ρ) (hi : ρ[i]? = some (.own (.dt l2))) (hs : σ[i]? = some (some (.ref a))) (ha : H a = some (.dT l)) :
    Rp K ⟨F, hid (upd H a (.frz od (.dT l))) B.pt, B.pt⟩ F σ (upd H a (.frz od (.dT l))) (ρ.map Sl.inn) := by
  obtain ⟨a', e1, h1, h2, h3, h4⟩ := rp.sl i _ hi
  rw [hs] at e1
  cases e1
  have ri := rp.inn
  have same : Same F (hid (upd H a (.frz od (.dT l))) B.pt) := fun c o h => by
    obtain ⟨n, g⟩ := hid_some (rp.fr.fh c o h)
    rw [hid_ne n, upd_ne (ne_of_none h h3)]; exact g
  have pot : ∀ p, B.pt = some p → PotAt (upd H a (.frz od (.dT l))) p := fun p e => by
    have hc : p ≠ a := fun z => by subst z; exact h2 e
    obtain ⟨x, y, z, g, q⟩ := rp.fr.pot p e
    exact ⟨x, y, z, by rw [upd_ne hc]; exact g, q⟩
  have ru : ∀ c w, Rd (hid H B.pt) c w → Rd (hid (upd H a (.frz od (.dT l))) B.pt) c w := fun c w h => lock_rd ha h2 c w h fun e => by
    subst e
    rcases h with h | ⟨o, h⟩
    · have := (hid_some h).2; rw [ha] at this; cases this; rfl
    · have := (hid_some h).2; rw [ha] at this; cases this
  refine ⟨.refl same pot, ri.len, fun j s e => ?_, ri.di⟩
  have q := ri.sl j s e
  cases s with
  | un => trivial
  | rd d => obtain ⟨v, e1, h⟩ := q; exact ⟨v, e1, h.rdm ru⟩
  | fz d => exact q
  | pot => exact q
  | own o =>
    rw [List.getElem?_map] at e
    cases c : ρ[j]? with
    | none => rw [c] at e; cases e
    | some s => rw [c] at e; cases s <;> cases e
theorem lock_kt {X : Cx} {σ : Sg} {ρ : Rho} {Q' : Rr → Prop} {Q : VK} (ha : H a = some u) (nt : ∀ xs, u ≠ .tup xs) (np : pt ≠ some a) (hf : F a = none) (k : Kt X pt F (hid H pt) σ ρ Q' Q) :
    Kt X pt F (hid (upd H a (.frz od u)) pt) σ (ρ.map Sl.inn) Q' (fun v H' => H' a = some (.frz od u) ∧ Q v (upd H' a u)) := by
  intro v H2 F2 r f q q'
  have hfa : hid (upd H a (.frz od u)) pt a = some (.frz od u) := by rw [hid_ne np, upd_same]
  have h2a : H2 a = some (.frz od u) := f.rh a _ hfa
  have f2a : F2 a = none := by
    rcases f.fn a (by rw [hfa]; exact fun z => nomatch z) with h | ⟨xs, h⟩
    · rw [h]; exact hf
    · rw [hfa] at h; cases h
  have ne : ∀ c, c ≠ a → hid (upd H a (.frz od u)) pt c = hid H pt c := fun c hc => by
    unfold hid; rw [upd_ne hc]
  have f' : Fr pt F (hid H pt) F2 (upd H2 a u) := by
    refine ⟨f.ff, fun c h => ?_, fun c o h => ?_, fun c e => hid_pt e, fun c o h => ?_, fun c e => ?_⟩
    · by_cases hc : c = a
      · subst hc; exact .inl (f2a.trans hf.symm)
      · rw [← ne c hc] at h ⊢; exact f.fn c h
    · by_cases hc : c = a
      · subst hc
        have := (hid_some h).2
        rw [ha] at this; cases this
        exact upd_same
      · rw [upd_ne hc]; rw [← ne c hc] at h; exact f.rh c o h
    · have hc : c ≠ a := fun z => by rw [z, f2a] at h; cases h
      obtain ⟨n, g⟩ := hid_some (f.fh c o h)
      rw [hid_ne n, upd_ne hc]; exact g
    · have hc : c ≠ a := fun z => np (z ▸ e)
      obtain ⟨x, y, z, g, w⟩ := f.pot c e
      exact ⟨x, y, z, by rw [upd_ne hc]; exact g, w⟩
  refine ⟨h2a, k v (upd H2 a u) F2 r f' ?_ q'⟩
  cases r with
  | val d => exact q
  | pot => exact q
  | fr o =>
    obtain ⟨p, e, h1, h2, h3, h4⟩ := q
    have hp : p ≠ a := fun z => by rw [z, hfa] at h1; cases h1
    exact ⟨p, e, by rw [← ne p hp]; exact h1, h2, h3, h4.mono (Same.refl _) fun w hw => by rw [upd_ne hp]; exact hw⟩
  | al j =>
    obtain ⟨e, h⟩ := q
    refine ⟨e, ?_⟩
    rcases h with ⟨d, h⟩ | ⟨o, h⟩
    · rw [List.getElem?_map] at h
      cases c : ρ[j]? with
      | none => rw [c] at h; cases h
      | some s =>
        rw [c] at h
        cases s with
        | rd d' => exact .inl ⟨d', rfl⟩
        | own o => exact .inr ⟨o, rfl⟩
        | _ => cases h
    · rw [List.getElem?_map] at h
      cases c : ρ[j]? with
      | none => rw [c] at h; cases h
      | some s => rw [c] at h; cases s <;> cases h
end
/-- the pairs of a dict whose keys are tuples -/
def itemsT : D → Option (List D)
  | .dt l => if (l.all fun p => decide (p.1.length ≤ lim)) = true ∧ l.length ≤ lim then some (l.map fun p => .tuple [tkd p.1, p.2]) else none
  | _ => none
theorem RvT.at {K : PySem.W.Frag} {F : Hp} : ∀ {l : List (List Key × V)} {l2 : List (List Ky × D)} {i : Nat} {k : List Key} {v : V}, RvT K F l l2 → l[i]? = some (k, v) → ∃ d, l2[i]? = some (k, d) ∧ Rv K F v d
  | _, _, i, _, _, .nil, e => by simp at e
  | _, _, 0, k, v, .cons h r, e => by simp at e; obtain ⟨rfl, rfl⟩ := e; exact ⟨_, by simp, h⟩
  | _, _, i + 1, k, v, .cons h r, e => by simpa using RvT.at (i := i) (k := k) (v := v) r (by simpa using e)
theorem keys_rv {K : PySem.W.Frag} {F : Hp} : ∀ k : List Key, RvL K F (k.map kV) (k.map Ky.d)
  | [] => .nil
  | .inl i :: r => .cons (.int i) (keys_rv r)
  | .inr x :: r => .cons (.str x) (keys_rv r)
theorem wk_items {K : PySem.W.Frag} {pt : Option Addr} {F2 : Hp} {St : Hp → Prop} {a : Addr} {od : Obj} {l : List (List Key × V)} {l2 : List (List Ky × D)} {ds : List D} (r : RvT K F2 l l2) (e : itemsT (.dt l2) = some ds) (st : ∀ H', St H' → H' a = some (.frz od (.dT l))) :
    Wk K pt F2 St (Itit a od l) ds := by
  have e' : (if (l2.all fun p => decide (p.1.length ≤ lim)) = true ∧ l2.length ≤ lim then some (l2.map fun p => D.tuple [tkd p.1, p.2]) else none) = some ds := e
  by_cases c : (l2.all fun p => decide (p.1.length ≤ lim)) = true ∧ l2.length ≤ lim
  · rw [if_pos c] at e'
    cases e'
    have hl := r.length
    refine ⟨⟨fun H => H a = some (.frz od (.dT l)), fun i H x H' => ∃ T k v q, l[i]? = some (k, v) ∧ H q = some (.tup (k.map kV)) ∧ x = .ref T ∧ H T = none ∧ H' = upd H T (.tup [.ref q, v]), ?_, st, ?_⟩, by rw [List.length_map]; exact lim_line c.2⟩
    · rw [List.length_map, ← hl]
      exact ⟨fun i H hi q => ⟨q, hi⟩, fun H q => ⟨q, Nat.le_refl _⟩, fun i H x H' hi q y => y⟩
    · rintro i H' x H'' F' hi ⟨T, k, v, q, h1, h2, rfl, h4, rfl⟩ hst sm hs hp
      obtain ⟨d, g1, g2⟩ := r.at h1
      have f0 : Fr pt F' (hid H' pt) F' H' := .refl hs hp
      obtain ⟨F3, f3, s3, t3⟩ := f0.tup h2
      obtain ⟨w1, w2, w3⟩ := f3.fresh h4
      have f4 := (f3.new (u := .tup [.ref q, v]) h4).grow w1 w2 w3 upd_same
      have sm2 : Same F3 (upd F3 T (.tup [.ref q, v])) := fun c o h => by rw [upd_ne (ne_of_none h w3)]; exact h
      have hk : k.length ≤ lim := by
        have := List.all_eq_true.mp c.1 (k, d) (List.mem_of_getElem? g1)
        simpa using this
      refine ⟨_, _, f4, by rw [List.getElem?_map, g1]; rfl, .tup upd_same (.cons ?_ (.cons (g2.mono (sm.trans (s3.trans sm2))) .nil)) (by show 2 ≤ sizeLine; decide)⟩
      exact .tup (sm2 _ _ t3) (keys_rv k) (by rw [List.length_map]; exact lim_line hk)
  · rw [if_neg c] at e'; cases e'
/-- {k: v for a, b in x.items() if ..}, [.. for a, b in x.items() if ..], x a dict of one's own, its keys tuples -/
def dcI (b : Bool) (i : Nat) (tg : TX) (k : Rho → D → M D) (vs : List Nat) : EX := fun ρ => bnd (opt (gOwn i ρ)) fun o => bnd (opt (itemsT o)) fun ds => bnd (wGo tg k (inb vs ρ) ds (emptyD b)) fun o => ret (.fr o)
def lcI (i : Nat) (tg : TX) (k : Rho → List D → M (List D)) (vs : List Nat) : EX := fun ρ => bnd (opt (gOwn i ρ)) fun o => bnd (opt (itemsT o)) fun ds => bnd (wGo tg k (inb vs ρ) ds []) fun ys => ret (.fr (.list ys))
theorem inn_inn (ρ : Rho) : (ρ.map Sl.inn).map Sl.inn = ρ.map Sl.inn := by
  rw [List.map_map]
  apply List.map_congr_left
  intro s _
  cases s <;> rfl
section
variable {X : Cx} {kx vx elt : Expr} {elts : List Expr} {kk : Nat} {tpos opos apos cpos pos : Pos} {x : Str} {ifs : List Expr} {scope : Scope} {own : List (Str × Nat)} {t : TX} {ts : List Nat} {tt : Rho → M Bool} {pk pv' p : EX}
theorem lock_go {i : Nat} {σ : Sg} {H : Hp} {B : Bs} {F : Hp} {ρ : Rho} {o : D} {ds : List D} (rp : Rp X.K B F σ H ρ) (e1 : gOwn i ρ = some o) (e2 : itemsT o = some ds) :
    ∃ a l, σ[i]? = some (some (.ref a)) ∧ H a = some (.dT l) ∧ B.pt ≠ some a ∧ F a = none ∧ ∀ od, Rp X.K ⟨F, hid (upd H a (.frz od (.dT l))) B.pt, B.pt⟩ F σ (upd H a (.frz od (.dT l))) (ρ.map Sl.inn) ∧
      Wk X.K B.pt F (stH true ⟨F, hid (upd H a (.frz od (.dT l))) B.pt, B.pt⟩ F (upd H a (.frz od (.dT l)))) (Itit a od l) ds := by
  cases o with
  | dt l2 =>
    have hi := gOwn_of e1
    obtain ⟨a, h0, h1, h2, h3, l, h4, h5⟩ := rp.sl i _ hi
    refine ⟨a, l, h0, h4, h2, h3, fun od => ⟨lock_rp rp hi h0 h4, wk_items h5 e2 fun H' q => ?_⟩⟩
    exact q.2 a _ (by show hid _ _ a = _; rw [hid_ne h2, upd_same])
  | _ => cases e2
theorem px_dcI (b : Bool) (i : Nat) (hu : X.A.units + 1 < cLine) (hc : X.calm = true) (hN : X.N.Nodup) (ok : BlkOk X.N X.env.scope scope own) (hg : Blk X scope fun X => TGt X (.Tuple elts kk tpos) t ts) (ht : Blk X scope fun X => PTS X ifs tt) (hk : Blk X scope fun X => PX X kx pk) (he : Blk X scope fun X => PX X vx pv')
    (hNx : X.N[i]? = some x := by rfl) (hv : Vis X.env.scope x := by first | exact Or.inl rfl | exact Or.inr (Or.inl rfl) | exact Or.inr (Or.inr rfl)) (hd : (x == ("__debug__" : Str)) = false := by decide) (hcd : (x == ("__classdict__" : Str)) = false := by decide)
    (hbase : attributeBase (.Name x opos) "items" X.env (eval (.Name x opos) X.env) = eval (.Name x opos) X.env := by rfl) (hline : (apos.endLine == cpos.line) = true := by rfl)
    (hs : ∀ z, foldedSetIterable (.Call (.Attribute (.Name x opos) "items" apos) [] [] cpos) X.env z = pure z := by intro _; rfl) (hsub : ∀ j ∈ ts, j ∈ own.map (·.2) := by decide) :
    PX X (.DictComp kx vx [⟨.Tuple elts kk tpos, .Call (.Attribute (.Name x opos) "items" apos) [] [] cpos, ifs, 0⟩] scope pos) (dcI b i t (kd tt pk pv') (own.map (·.2))) := by
  refine PE.weak (pe_lock (pe_dcG (b := b) (g := lfg X t ts) (tt := lfT X tt) (tk := lft X pk) (tv := lft X pv') hu hc hN (pi_itemsT (L2.pv i hNx hv hd hcd) hbase hline) ok hg ht hk he hs)) fun σ H Q ⟨B, F, ρ, Q', rp, hq, k⟩ => ?_
  obtain ⟨o, e1, hq⟩ := opt_ok hq
  obtain ⟨ds, e2, hq⟩ := opt_ok hq
  obtain ⟨a, l, h0, h1, h2, h3, h4⟩ := lock_go rp e1 e2
  refine ⟨a, .dT l, h1, True.intro, fun od => ?_⟩
  obtain ⟨r', wk⟩ := h4 od
  refine ⟨.ref a, h0, a, od, l, rfl, upd_same, fun D hD => ?_⟩
  have q0 : wGo t (kd tt pk pv') (inb (own.map (·.2)) (ρ.map Sl.inn)) ds (emptyD b) fun o => Q' (.fr o) := by
    unfold inb
    rw [inn_inn]
    exact hq
  exact dc_c hsub r' r'.fr.again wk q0 hD (lock_kt h1 (fun xs z => nomatch z) h2 h3 k)
theorem px_lcI (i : Nat) (hc : X.calm = true) (hN : X.N.Nodup) (ok : BlkOk X.N X.env.scope scope own) (hg : Blk X scope fun X => TGt X (.Tuple elts kk tpos) t ts) (ht : Blk X scope fun X => PTS X ifs tt) (he : Blk X scope fun X => PX X elt p)
    (hNx : X.N[i]? = some x := by rfl) (hv : Vis X.env.scope x := by first | exact Or.inl rfl | exact Or.inr (Or.inl rfl) | exact Or.inr (Or.inr rfl)) (hd : (x == ("__debug__" : Str)) = false := by decide) (hcd : (x == ("__classdict__" : Str)) = false := by decide)
    (hbase : attributeBase (.Name x opos) "items" X.env (eval (.Name x opos) X.env) = eval (.Name x opos) X.env := by rfl) (hline : (apos.endLine == cpos.line) = true := by rfl)
    (hs : ∀ z, foldedSetIterable (.Call (.Attribute (.Name x opos) "items" apos) [] [] cpos) X.env z = pure z := by intro _; rfl) (hsub : ∀ j ∈ ts, j ∈ own.map (·.2) := by decide) :
    PX X (.ListComp elt [⟨.Tuple elts kk tpos, .Call (.Attribute (.Name x opos) "items" apos) [] [] cpos, ifs, 0⟩] scope pos) (lcI i t (k1 tt p) (own.map (·.2))) := by
  refine PE.weak (pe_lock (pe_lc (g := lfg X t ts) (tt := lfT X tt) (te := lft X p) hc hN (pi_itemsT (L2.pv i hNx hv hd hcd) hbase hline) ok hg ht he hs)) fun σ H Q ⟨B, F, ρ, Q', rp, hq, k⟩ => ?_
  obtain ⟨o, e1, hq⟩ := opt_ok hq
  obtain ⟨ds, e2, hq⟩ := opt_ok hq
  obtain ⟨a, l, h0, h1, h2, h3, h4⟩ := lock_go rp e1 e2
  refine ⟨a, .dT l, h1, True.intro, fun od => ?_⟩
  obtain ⟨r', wk⟩ := h4 od
  refine ⟨.ref a, h0, a, od, l, rfl, upd_same, fun D hD => ?_⟩
  have q0 : wGo t (k1 tt p) (inb (own.map (·.2)) (ρ.map Sl.inn)) ds [] fun ys => Q' (.fr (.list ys)) := by
    unfold inb
    rw [inn_inn]
    exact hq
  exact lc1_c hsub r' r'.fr.again wk q0 hD (lock_kt h1 (fun xs z => nomatch z) h2 h3 k)
/-- name = {.. for .. in x.items() ..} on one line -/
theorem pp_setDcI (b : Bool) (i : Nat) {j : Nat} {y : Str} {py spos : Pos} (hu : X.A.units + 1 < cLine) (hc : X.calm = true) (hN : X.N.Nodup) (ok : BlkOk X.N X.env.scope scope own) (hg : Blk X scope fun X => TGt X (.Tuple elts kk tpos) t ts) (ht : Blk X scope fun X => PTS X ifs tt) (hk : Blk X scope fun X => PX X kx pk) (he : Blk X scope fun X => PX X vx pv')
    (hNx : X.N[i]? = some x := by rfl) (hy : X.N[j]? = some y := by rfl) (hyl : X.env.scope.names.lookup y = some .local := by kernel_rfl) (hv : Vis X.env.scope x := by first | exact Or.inl rfl | exact Or.inr (Or.inl rfl) | exact Or.inr (Or.inr rfl)) (hd : (x == ("__debug__" : Str)) = false := by decide) (hcd : (x == ("__classdict__" : Str)) = false := by decide)
    (hbase : attributeBase (.Name x opos) "items" X.env (eval (.Name x opos) X.env) = eval (.Name x opos) X.env := by rfl) (hline : (apos.endLine == cpos.line) = true := by rfl)
    (hsw : swapsWith (.DictComp kx vx [⟨.Tuple elts kk tpos, .Call (.Attribute (.Name x opos) "items" apos) [] [] cpos, ifs, 0⟩] scope pos) (some (.Name y py)) spos.line X.env = pure true := by kernel_rfl)
    (hs : ∀ z, foldedSetIterable (.Call (.Attribute (.Name x opos) "items" apos) [] [] cpos) X.env z = pure z := by intro _; rfl) (hsub : ∀ j ∈ ts, j ∈ own.map (·.2) := by decide) :
    PP X (.Assign [.Name y py] (.DictComp kx vx [⟨.Tuple elts kk tpos, .Call (.Attribute (.Name x opos) "items" apos) [] [] cpos, ifs, 0⟩] scope pos) spos) (sSet j (dcI b i t (kd tt pk pv') (own.map (·.2)))) := by
  refine PS.weak (ps_lock (ps_setDcG (b := b) (g := lfg X t ts) (tt := lfT X tt) (tk := lft X pk) (tv := lft X pv') hu hc hN hy hyl hsw (pi_itemsT (L2.pv i hNx hv hd hcd) hbase hline) ok hg ht hk he hs)) fun D σ H ⟨B, F, ρ, Q', rp, hq, k1, k2, k3, k4⟩ => ?_
  obtain ⟨o, e1, hq⟩ := opt_ok hq
  obtain ⟨ds, e2, hq⟩ := opt_ok hq
  obtain ⟨a, l, h0, h1, h2, h3, h4⟩ := lock_go rp e1 e2
  refine ⟨a, .dT l, h1, True.intro, fun od => ?_⟩
  obtain ⟨r', wk⟩ := h4 od
  refine ⟨.ref a, h0, a, od, l, rfl, upd_same, fun L hL => ?_⟩
  have q0 : wGo t (kd tt pk pv') (inb (own.map (·.2)) (ρ.map Sl.inn)) ds (emptyD b) fun o => bnd (opt ((Rr.fr o).sl ρ)) (fun s => if j < ρ.length then ret (.nx (ρ.set j s)) else fail) Q' := by
    unfold inb
    rw [inn_inn]
    exact hq
  refine dc_c (Q' := fun r => bnd (opt (r.sl ρ)) (fun s => if j < ρ.length then ret (.nx (ρ.set j s)) else fail) Q') (Q := fun v H' => H' a = some (.frz od (.dT l)) ∧ D.nx (σ.set j (some v)) (upd H' a (.dT l))) hsub r' r'.fr.again wk q0 hL ?_
  refine lock_kt (Q := fun v H' => D.nx (σ.set j (some v)) H') h1 (fun xs z => nomatch z) h2 h3 fun v H1 F1 r f q q2 => ?_
  obtain ⟨s, e1, q3⟩ := opt_ok q2
  by_cases hl : j < ρ.length
  · rw [if_pos hl] at q3
    exact k1 _ H1 F1 _ f.ff (rp.set f q e1 hl) q3
  · rw [if_neg hl] at q3; exact q3.elim
end
end PV

set_option Elab.async false
set_option linter.all false
set_option maxRecDepth 100000
set_option maxHeartbeats 1000000
/-! PvT: enumerate(l), enumerate(l, k) of a list. -/
namespace PV
open PySem PySem.Spec L2 PyProof.Rows

/-- the list at a as it stands at each turn, each item in a new pair, counted from c -/
def Itec (K : PySem.W.Frag) (a : Addr) (c : Int) : It :=
  ⟨fun i H => ∃ (xs : List V) (x : V), SqL K H a xs ∧ xs[i]? = some x, fun i H v H' => ∃ T x, v = .ref T ∧ H T = none ∧ H' = upd H T (.tup [.int (c + (i : Nat)), x]) ∧ ∀ xs, SqL K H a xs → xs[i]? = some x, fun i H => ∃ xs : List V, SqL K H a xs ∧ xs.length = i⟩
theorem turn_enumC {P : Program} {w : World} {K : PySem.W.Frag} {elts : List Expr} {kk : Nat} {tpos : Pos} (a e it : Addr) (c : Int) :
    Turn P w K (.Tuple elts kk tpos) (Itec K a c) [e, it] e (fun i h => (∃ old, IsEnum h e it (c + ((i : Nat) : Int)) old) ∧ h.IsListIter it a i ∧ e ≠ it ∧ a ≠ it ∧ e ≠ a) where
  mem := by simp
  obj := fun i h st b hb => by
    obtain ⟨⟨old, he⟩, ⟨o, ho, hc, hd⟩, _⟩ := st
    have e' : b = e ∨ b = it := by simpa using hb
    rcases e' with z | z
    · rw [z]; exact ⟨_, he, fun v q => nomatch q⟩
    · rw [z]; exact ⟨o, ho, fun v q => by rw [hd] at q; cases q⟩
  keep := fun i h h' st k => let ⟨⟨old, he⟩, hi, hne⟩ := st; ⟨⟨old, k e (by simp) _ he⟩, hi.at fun o q => k it (by simp) o q, hne⟩
  item := by
    intro X hP hw hK hc i pins s σ H E I hf st hg
    subst hP hw hK
    obtain ⟨⟨old, he⟩, hit, hne, hae, hea⟩ := st
    obtain ⟨xs, x, hq, hx⟩ := hg
    obtain ⟨its, rv, p, hz⟩ := I.list hq
    obtain ⟨u, hu, ru⟩ := rv.get hx
    have hel : e < s.heap.objs.size := Heap.lt_size he
    have hil : it < s.heap.objs.size := by obtain ⟨_, q, _⟩ := hit; exact Heap.lt_size q
    have hlt : i < its.toArray.size := by rw [List.size_toArray]; exact (List.getElem?_eq_some_iff.mp hu).1
    refine wpAny_pyNext_enum_itemC (Draws.list (A := X.A.in1) (I.ok.hd hc) it a hae its.toArray) he ⟨hit, p.isList⟩ hlt hne (by simp [hne, hea]) fun x' h' tk hx' ho hst' hT hsz hk => ?_
    have ex : x' = u := by
      have hx' : its.toArray[i]? = some x' := hx'
      have : its[i]? = some x' := by simpa using hx'
      rw [hu] at this
      exact (Option.some.inj this).symm
    subst ex
    refine ⟨_, rfl, wpAny_letOwnedTupleGo_enum (s := { s with heap := h', toks := tk + 1 }) ho fun h'' he' sb => ?_⟩
    have hT2 : h''.get? s.heap.objs.size = some { cls := .type "tuple", data := .seq #[.int (c + ((i : Nat) : Int)) tk, x'] } := (sb.2 _ (Nat.ne_of_gt hel)).trans hT
    have new : ObjOk X.prog X.w (upd H s.heap.objs.size (.tup [.int (c + (i : Nat)), x])) h'' s.heap.objs.size (.tup [.int (c + (i : Nat)), x]) :=
      ⟨by show 2 ≤ sizeLine; decide, [.int (c + ((i : Nat) : Int)) tk, x'], .cons ⟨_, rfl⟩ (.cons ru .nil), ⟨_, hT2, rfl, _, rfl⟩⟩
    have I1 : L2.Inv X pins σ (upd H s.heap.objs.size (.tup [.int (c + (i : Nat)), x])) { s with heap := h'', toks := tk + 1 } :=
      I.turnedNew (ch := [e, it]) (fun b ob hb q => (sb.2 b (fun z => hb (by simp [z]))).trans (hk b ob (fun z => hb (by simp [z])) (fun z => hb (by simp [z])) q)) hf (Nat.le_refl _) new
    refine ⟨.ref s.heap.objs.size, _, I1, rfl, ⟨_, x, rfl, I.hok.fresh (Nat.le_refl _), rfl, fun ys hy => by rw [I.list_inj hy hq]; exact hx⟩, ⟨⟨x', ?_⟩, hst'.1.at fun o q => (sb.2 it (Ne.symm hne)).trans q, hne, hae, hea⟩, fun b hb => ?_⟩
    · have e1 : c + ((i + 1 : Nat) : Int) = c + (i : Int) + 1 := by omega
      rw [e1]; exact he'
    · have hb' : b < s.heap.objs.size := by
        have e' : b = e ∨ b = it := by simpa using hb
        rcases e' with z | z
        · rw [z]; exact hel
        · rw [z]; exact hil
      rw [upd_ne (Nat.ne_of_lt hb')]
      exact (hf b hb).1
  done := by
    intro X hP hw hK hc i pins s σ H E I hf st hg
    subst hP hw hK
    obtain ⟨⟨old, he⟩, hit, hne, hae, hea⟩ := st
    obtain ⟨xs, hq, hx⟩ := hg
    obtain ⟨its, rv, p, hz⟩ := I.list hq
    obtain ⟨f0, f1, f2, f3, f4, f5⟩ := hf it (by simp)
    have hn : its.toArray.size = i := by rw [List.size_toArray, ← rv.length]; exact hx
    refine wpAny_pyNext_enum_endD (Draws.list (A := X.A.in1) (I.ok.hd hc) it a hae its.toArray) he (by rw [hn]; exact ⟨hit, p.isList⟩) fun h' eb => ⟨rfl, I.turned (t' := s.toks) (fun b o hb q => eb b o hb q) f0 f1 f3 f4 f5⟩
  self := fun A i s Q E st h => let ⟨⟨_, he⟩, _⟩ := st; wpAny_pyIter_enum he h
def iEnumC (K : PySem.W.Frag) (ta : TA) : TI := fun σ H R => ta σ H fun vs H1 => ∃ a xs c, vs = [.ref a, .int c] ∧ -(2 ^ 62) ≤ c ∧ c < 2 ^ 62 ∧ SqL K H1 a xs ∧ R (Itec K a c) H1
theorem pi_enumC {X : Cx} {e e2 : Expr} {ta : TA} {p pos tpos : Pos} {elts : List Expr} {kk : Nat} (hg : Gl X "enumerate") (hm : X.mg "enumerate" = none) (ha : PA X [e, e2] ta) (hs : starEach [e, e2] X.env = (false, eval e X.env) :: starEach [e2] X.env := by rfl) (hpl : (backTo pos (starEach [e2] X.env)).any (·.1) = false := by rfl) :
    PI X (.Tuple elts kk tpos) (.Call (.Name "enumerate" p) [e, e2] [] pos) (iEnumC X.K ta) := by
  refine ⟨fun pins s σ H R I h => ?_⟩
  refine Call_ (ld_blt I hg hm PyProof.Rows.boot_enumerate (PyProof.Rows.callWith_type1 (thn (ha.run pos pins s σ H _ I h) fun us s1 ⟨vs, H1, I1, r1, q1⟩ => ?_) hs hpl))
  obtain ⟨a, xs, c, ex, b1, b2, hq, q⟩ := q1
  subst ex
  obtain ⟨u1, u2, rfl, r1, r2⟩ := r1.two
  cases r1
  obtain ⟨t, rfl⟩ := r2
  obtain ⟨its, rv, p', hz⟩ := I1.list hq
  refine enum_begins (begins_list a its.toArray) p'.isList (by omega) (by omega) fun h' he hit hsz hk => wpAny_pyIter_enum he ?_
  have I2 : L2.Inv X pins σ H1 { s1 with heap := h' } := I1.kept (t' := s1.toks) hk
  have hal : a < s1.heap.objs.size := by obtain ⟨o, n, ho, _⟩ := p'; exact Heap.lt_size ho
  refine ⟨s1.heap.objs.size + 1, [s1.heap.objs.size + 1, s1.heap.objs.size], _, _, H1, rfl, I2, turn_enumC a (s1.heap.objs.size + 1) s1.heap.objs.size c, ⟨⟨.none, by simpa using he⟩, ⟨_, hit, rfl, rfl⟩, Nat.succ_ne_self _, Nat.ne_of_lt hal, Ne.symm (Nat.ne_of_lt (Nat.lt_succ_of_lt hal))⟩, fun b hb => ?_, q⟩
  have e' : b = s1.heap.objs.size + 1 ∨ b = s1.heap.objs.size := by simpa using hb
  have hle : s1.heap.objs.size ≤ b := by
    rcases e' with z | z
    · rw [z]; exact Nat.le_add_right _ _
    · rw [z]; exact Nat.le_refl _
  exact I1.fpOk hle (I1.hok.fresh hle)
theorem walk_enumC {K : PySem.W.Frag} {a : Addr} {xs : List V} {c : Int} : Walk (Itec K a c) xs.length (fun H => SqL K H a xs) (YPair (fun i => some (.int (c + (i : Nat)))) (fun i => xs[i]?)) := by
  refine ⟨fun i _ hi q => ⟨xs, xs[i], q, by simp [hi]⟩, fun _ q => ⟨xs, q, rfl⟩, fun i H v H' _ q y => ?_⟩
  obtain ⟨T, x, h1, h2, h3, h4⟩ := y
  exact ⟨T, .int (c + (i : Nat)), x, h1, h2, h3, rfl, h4 xs q⟩
/-- the items with their numbers -/
def enumD (c : Int) : List D → List D
  | [] => []
  | d :: ds => .tuple [.int c, d] :: enumD (c + 1) ds
theorem enumD_at : ∀ (ds : List D) (c : Int) (i : Nat) (d : D), ds[i]? = some d → (enumD c ds)[i]? = some (.tuple [.int (c + (i : Nat)), d])
  | [], _, i, d, e => by simp at e
  | x :: r, c, 0, d, e => by simp at e; subst e; simp [enumD]
  | x :: r, c, i + 1, d, e => by
    have h := enumD_at r (c + 1) i d (by simpa using e)
    have : c + 1 + (i : Int) = c + ((i + 1 : Nat) : Int) := by omega
    rw [this] at h
    simpa [enumD] using h
theorem enumD_len : ∀ (ds : List D) (c : Int), (enumD c ds).length = ds.length
  | [], _ => rfl
  | _ :: r, c => by simp [enumD, enumD_len r]
def wEnum (md : Bool) (a b : EX) : WX := fun ρ => bnd (stv md a ρ) fun x => bnd (rdv b ρ) fun y => match x, y with
  | .list xs, .int c => if okRng c 0 = true then ret (enumD c xs) else fail
  | _, _ => fail
theorem w_enum {X : Cx} {md : Bool} {elts : List Expr} {kk : Nat} {tpos p pos : Pos} {a b : Expr} {pa pb : EX} (hm : X.mg "enumerate" = none) (ha : PX X a pa) (hb : PX X b pb) (hg : Gl X "enumerate" := by (unfold L2.Gl; kernel_rfl)) (hs : starEach [a, b] X.env = (false, eval a X.env) :: starEach [b] X.env := by rfl)
    (hs2 : starEach [b] X.env = (false, eval b X.env) :: starEach [] X.env := by rfl) (hpl : (backTo pos (starEach [b] X.env)).any (·.1) = false := by rfl) : WI X md (.Tuple elts kk tpos) (.Call (.Name "enumerate" p) [a, b] [] pos) (wEnum md pa pb) := by
  refine PI.weak (pi_enumC hg hm (pa_cons ha (pa_cons hb pa_nil hs2) hs) hs hpl) fun σ H R ⟨B, F, ρ, Q', rp, hp, k⟩ => ?_
  refine lft_st rp hp fun v H1 F1 d f s q => ?_
  refine lft_rd (rp.fra f) q fun v2 H2 F2 d2 f2 t2 q2 => ?_
  have s' := s.mono (St' := stH md B F2 H2) f2.ff fun H' h => stH_mono f2.ff f2.rhid h
  have now := stH_now (md := md) rp (f.trans f2)
  cases d with
  | list xs =>
    cases d2 with
    | int c =>
      cases t2 with
      | int =>
        obtain ⟨a, vs, rfl, h1, h2, z⟩ := s'
        have q3 : (if okRng c 0 = true then ret (enumD c xs) else fail : M (List D)) Q' := q2
        by_cases cc : okRng c 0 = true
        · rw [if_pos cc] at q3
          obtain ⟨b1, b2, _, _, _⟩ := okR cc
          refine ⟨a, vs, c, rfl, b1, b2, (h1 H2 now), k _ H2 F2 (enumD c xs) (f.trans f2) ⟨⟨fun H' => SqL X.K H' a vs, _, by rw [enumD_len, ← h2.length]; exact walk_enumC, fun H' q => (h1 H' q), fun i H' x H'' F' _ y _ sm hs hp => ypair (fun i x y hx hy => ?_) i x H'' F' y sm hs hp⟩, by rw [enumD_len]; exact z⟩ q3⟩
          cases hx
          obtain ⟨d, g1, g2⟩ := h2.at hy
          exact ⟨_, d, enumD_at xs c i d g1, .int _, g2⟩
        · rw [if_neg cc] at q3; exact q3.elim
    | _ => exact q2.elim
  | _ => cases d2 <;> exact q2.elim
end PV

set_option Elab.async false
set_option linter.all false
set_option maxRecDepth 100000
set_option maxHeartbeats 1000000
/-! PvU: what the printed derivations use. -/
namespace PV
open PySem PySem.Spec L2
/-- a def that keeps its promise, where it stands -/
structure Cal (P : Program) (w : World) (K : PySem.W.Frag) (mg : Str → Option Value) (base : Heap) (k : Nat) (x : Str) (ps : List Str) (c : FX) : Prop where
  ok : ∃ f fd, FnOk P w K mg base CX0 k f fd ps (spP K c) ∧ mg x = some (.ref f) ∧ PySem.W.keepIn K (.ref f) = true ∧ Binds K fd ps []
theorem Room.up {k : Nat} {A : Around} (r : Room k A) (n : Nat) (h : n ≤ 200) : A.units + n < cLine := by have := r.un; omega
section
variable {X : Cx} {e : Expr} {es : List Expr} {l : GX} {pos p' : Pos} {k j : Nat} {x : Str} {ps : List Str} {c : FX}
theorem px_cal (C : Cal X.prog X.w X.K X.mg X.base k x ps c) (hr : Room j X.A) (hk : k ≤ j) (ha : PG' X (e :: es) l) (hg : Gl X x := by (unfold L2.Gl; kernel_rfl)) (hd : (x == ("__debug__" : Str)) = false := by decide) (he : starEach (e :: es) X.env = (false, eval e X.env) :: starEach es X.env := by rfl)
    (hpl : (backTo pos (starEach es X.env)).any (·.1) = false := by rfl) : PX X (.Call (.Name x p') (e :: es) [] pos) (calE c l) := by
  obtain ⟨f, fd, F, hm, kp, hb⟩ := C.ok
  exact px_call F (hr.mono hk) hm kp hb ha hg hd he hpl
theorem pp_retN : PP X (.Return none pos) (fun _ => ret (.rt (.val .none))) := PS.weak ps_retN fun D σ H ⟨B, F, ρ, Q', rp, hp, k1, k2, k3, k4⟩ => k4 .non H F (.val .none) rp.fr .non hp
/-- a ghost step: where the i-th name holds a thing of one's own, it never changes from here on -/
def sFixM (i : Nat) : SX := fun ρ => match ρ[i]? with
  | some (.own o) => ret (.nx (ρ.set i (.fz o)))
  | _ => ret (.nx ρ)
theorem pp_fixM {st : Stmt} {s : SX} (i : Nat) (h : PP X st s) : PP X st (sSeq (sFixM i) s) := by
  refine PS.weak h fun D σ H ⟨B, F, ρ, Q', rp, hp, k1, k2, k3, k4⟩ => ?_
  have hp' : bnd (sFixM i ρ) (fun f => match f with | .nx ρ' => s ρ' | f => ret f) Q' := hp
  unfold sFixM at hp'
  cases e : ρ[i]? with
  | none => rw [e] at hp'; exact ⟨B, F, ρ, Q', rp, hp', k1, k2, k3, k4⟩
  | some sl =>
    rw [e] at hp'
    cases sl with
    | own o =>
      obtain ⟨F', sm, r'⟩ := rp.fix e
      exact ⟨B, F', _, Q', r', hp', fun σ3 H3 F3 ρ3 s3 => k1 σ3 H3 F3 ρ3 (sm.trans s3), fun σ3 H3 F3 ρ3 s3 => k2 σ3 H3 F3 ρ3 (sm.trans s3), fun σ3 H3 F3 ρ3 s3 => k3 σ3 H3 F3 ρ3 (sm.trans s3), k4⟩
    | _ => exact ⟨B, F, ρ, Q', rp, hp', k1, k2, k3, k4⟩
theorem plainIx {b : Expr} (h : ∀ o i, subscripted b false o i = operate [o, i] (getItem o i) := by intro _ _; rfl) : PlainIx b := h
theorem px_neg {k : Nat} {p2 : Pos} {i : Int} : PX X (.UnaryOp .USub (.Constant (.int i) k p2) pos) (cst (.int (-i))) := by
  refine PE.weak (pe_un un_neg pe_int) fun σ H Q ⟨B, F, ρ, Q', rp, hp, k⟩ => ?_
  exact ⟨i, rfl, k (.int (-i)) H F (.val (.int (-i))) rp.fr.again (.int _) hp⟩
def powD (a b : D) : Option D := match a, b with
  | .int i, .int j => if 0 ≤ j ∧ j ≤ 1000000 ∧ sml i = true then some (.int (i ^ j.toNat)) else none
  | _, _ => none
theorem o_pow : Op2 X (rI CPow fun i j => .int (i ^ j.toNat)) (vl2 powD) := by
  intro pt F R F1 H1 σ ρ x y a b Q Q' f1 t u q k
  obtain ⟨z, e, q⟩ := opt_ok q
  cases a with
  | int i =>
    cases b with
    | int j =>
      cases t with
      | int =>
        cases u with
        | int =>
          have e' : (if 0 ≤ j ∧ j ≤ 1000000 ∧ sml i = true then some (D.int (i ^ j.toNat)) else none) = some z := e
          by_cases c : 0 ≤ j ∧ j ≤ 1000000 ∧ sml i = true
          · rw [if_pos c] at e'
            cases e'
            have h : i.natAbs < 18446744073709551616 := of_decide_eq_true c.2.2
            exact ⟨i, j, rfl, rfl, ⟨c.1, c.2.1, by omega⟩, Kt.val k f1 (.int _) q⟩
          · rw [if_neg c] at e'; cases e'
    | _ => cases e
  | _ => cases b <;> cases e
abbrev lenM : D → M Rr := vl fun d => match d with | .list xs => some (.int xs.length) | .tuple xs => some (.int xs.length) | _ => none
/-- _law_draw(pot, n): one of 0 .. n - 1 -/
def drawF : FX := fun as => match as with
  | [.pot, .d (.int n)] => if 0 < n ∧ n.natAbs < 1073741824 then bnd (draw n) (fun k => ret (.val (.int k))) else fail
  | _ => fail
end
end PV

set_option Elab.async false
set_option linter.all false
set_option maxRecDepth 100000
set_option maxHeartbeats 1000000
/-! PvV: the laws' draws. -/
namespace PV
open PySem PySem.Spec L2

/-- pot[i] -/
abbrev tPot (K : PySem.W.Frag) (i : Int) : TE := tOp (rIxL K) (tVar 0) (tC (.int i))
abbrev rInt : List V → Hp → VK → Prop := fun xs H Q => (∃ i, xs = [.int i] ∧ Q (.int i) H) ∨ ∃ k, xs = [.bl k] ∧ Q (.int (if k then 1 else 0)) H
abbrev rDvm : List V → Hp → VK → Prop := fun xs H Q => ∃ i j, xs = [.int i, .int j] ∧ CDiv i j ∧ ∀ p, H p = none → Q (.ref p) (upd H p (.tup [.int (i / j), .int (i % j)]))
abbrev rAdd : R2 := rI0 fun i j => .int (i + j)
abbrev rMul : R2 := rI CMul fun i j => .int (i * j)
abbrev rMod : R2 := rI (fun _ j => 0 < j) fun i j => .int (i % j)
abbrev rDiv : R2 := rI CDiv fun i j => .int (i / j)
abbrev rGt : R2 := rI0 fun i j => .bl (decide (j < i))
def t_draw (K : PySem.W.Frag) : TS :=
  tSeq (tIfS (tTest (tOp rGt (tPot K 0) (tC (.int 0))))
    (tSeq (tAsg (tCB rDvm (tCons (tPot K 0) (tCons (tVar 1) tNil))) (gTup K 2 (gCons (gSub (tVar 0) (tC (.int 0)) rSetL) (gCons (gName 2) gNil)))) (tRet (tVar 2))) tNext)
  (tSeq (tAsg (tOp rAdd (tPot K 2) (tC (.int 1))) (gSub (tVar 0) (tC (.int 2)) rSetL))
  (tSeq (tAsg (tOp rMod (tCB rInt (tCons (tOp rAdd (tOp rAdd (tOp rMul (tPot K 1) (tOp rAdd (tOp rMod (tCB rInt (tCons (tPot K 1) tNil)) (tC (.int 10007))) (tC (.int 20011)))) (tOp rMul (tC (.int 60013)) (tPot K 2))) (tC (.int 61))) tNil)) (tC (.int 2147483563))) (gSub (tVar 0) (tC (.int 1)) rSetL))
  (tRet (tOp rMod (tCB rInt (tCons (tOp rDiv (tPot K 1) (tC (.int 97))) tNil)) (tVar 1)))))
section
variable {K : PySem.W.Frag} {σ : Sg} {H : Hp} {Q : VK} {a : Addr} {x y z : Int}
theorem pot0 (e : σ[0]? = some (some (.ref a))) (h : H a = some (.lst [.int x, .int y, .int z])) (q : Q (.int x) H) : tPot K 0 σ H Q := ⟨_, e, a, _, 0, .int x, rfl, rfl, SqL.of h, rfl, q⟩
theorem pot1 (e : σ[0]? = some (some (.ref a))) (h : H a = some (.lst [.int x, .int y, .int z])) (q : Q (.int y) H) : tPot K 1 σ H Q := ⟨_, e, a, _, 1, .int y, rfl, rfl, SqL.of h, rfl, q⟩
theorem pot2 (e : σ[0]? = some (some (.ref a))) (h : H a = some (.lst [.int x, .int y, .int z])) (q : Q (.int z) H) : tPot K 2 σ H Q := ⟨_, e, a, _, 2, .int z, rfl, rfl, SqL.of h, rfl, q⟩
end
theorem Fr.pset {F H H2 : Hp} {a : Addr} {u : HO} (f : Fr (some a) F (hid H (some a)) F H2) (p : PotAt (upd H2 a u) a) : Fr (some a) F (hid H (some a)) F (upd H2 a u) := by
  refine ⟨f.ff, f.fn, fun c o h => ?_, f.rp, fun c o h => ?_, fun c e => ?_⟩
  · have hc : c ≠ a := fun e => (hid_some h).1 (by rw [e])
    rw [upd_ne hc]; exact f.rh c o h
  · obtain ⟨n, g⟩ := hid_some (f.fh c o h)
    have hc : c ≠ a := fun e => n (by rw [e])
    rw [hid_ne n, upd_ne hc]; exact g
  · cases e; exact p
theorem draw_run {K : PySem.W.Frag} {D : Ends} {H : Hp} {vs : List V} {E : XK} (h : spP K drawF vs H D.rt E) : t_draw K D (L2.start ["pot", "many", "digit"] vs) H := by
  obtain ⟨pt, F, as, Q', hs, hp, r, c, k⟩ := h
  have key : ∃ (n : Int), as = [.pot, .d (.int n)] ∧ 0 < n ∧ n < 1073741824 ∧ ∀ j : Int, 0 ≤ j → j < n → Q' (.val (.int j)) := by
    unfold drawF at c
    split at c
    · rename_i n
      by_cases hn : 0 < n ∧ n.natAbs < 1073741824
      · rw [if_pos hn] at c; exact ⟨n, rfl, hn.1, by have := hn.2; omega, c⟩
      · rw [if_neg hn] at c; exact c.elim
    · exact c.elim
  obtain ⟨n, rfl, n1, n2, kq⟩ := key
  cases r with
  | cons r1 r =>
    cases r with
    | cons r2 r =>
      cases r
      obtain ⟨a, rfl, rfl⟩ := r1
      cases (show Rv K F _ (.int n) from r2)
      obtain ⟨x, y, z, ha, hx, hy1, hy2, hz⟩ := hp a rfl
      have s0 : (L2.start ["pot", "many", "digit"] [V.ref a, V.int n])[0]? = some (some (V.ref a)) := rfl
      have s1 : (L2.start ["pot", "many", "digit"] [V.ref a, V.int n])[1]? = some (some (V.int n)) := rfl
      have f0 : Fr (some a) F (hid H (some a)) F H := .refl hs hp
      refine pot0 s0 ha ?_
      refine ⟨x, 0, rfl, rfl, decide (0 < x), rfl, ?_⟩
      by_cases hx0 : 0 < x
      · rw [decide_eq_true hx0]
        show if (true : Bool) = true then _ else _
        rw [if_pos rfl]
        refine pot0 s0 ha ⟨_, s1, x, n, rfl, ⟨n1, n2⟩, fun p hpn => ?_⟩
        have hap : a ≠ p := fun e => by rw [e, hpn] at ha; cases ha
        refine ⟨p, _, rfl, SqT.of upd_same, rfl, _, _, rfl, ⟨_, s0, a, _, 0, 0, rfl, rfl, by rw [upd_ne hap]; exact ha, rfl, ?_⟩⟩
        refine ⟨_, _, rfl, rfl, ?_⟩
        refine ⟨V.int (x % n), rfl, ?_⟩
        have pa : PotAt (upd (upd H p (.tup [.int (x / n), .int (x % n)])) a (.lst ([V.int x, V.int y, V.int z].set 0 (V.int (x / n))))) a := ⟨x / n, y, z, upd_same, Int.ediv_nonneg hx (by omega), hy1, hy2, hz⟩
        refine k _ _ F (.val (.int (x % n))) ((f0.new hpn).pset pa) (.int _) (kq _ (Int.emod_nonneg _ (by omega)) (Int.emod_lt_of_pos _ n1))
      · rw [decide_eq_false hx0]
        show if (false : Bool) = true then _ else _
        rw [if_neg (by decide)]
        refine pot2 s0 ha ⟨z, 1, rfl, rfl, ?_⟩
        refine ⟨_, s0, a, _, 2, 2, rfl, rfl, ha, rfl, ?_⟩
        have h1 : (upd H a (.lst ([V.int x, V.int y, V.int z].set 2 (V.int (z + 1))))) a = some (.lst [V.int x, V.int y, V.int (z + 1)]) := upd_same
        refine pot1 s0 h1 (pot1 s0 h1 (.inl ⟨y, rfl, ⟨y, 10007, rfl, rfl, (show (0 : Int) < 10007 by decide), ⟨y % 10007, 20011, rfl, rfl, ?_⟩⟩⟩))
        have m1 : 0 ≤ y % 10007 := Int.emod_nonneg _ (by decide)
        have m2 : y % 10007 < 10007 := Int.emod_lt_of_pos _ (by decide)
        refine ⟨y, _, rfl, rfl, .inr ⟨by omega, by omega⟩, ?_⟩
        refine pot2 s0 h1 ⟨60013, z + 1, rfl, rfl, .inl ⟨by decide, by decide⟩, ⟨_, _, rfl, rfl, ⟨_, 61, rfl, rfl, .inl ⟨_, rfl, ⟨_, 2147483563, rfl, rfl, (show (0 : Int) < 2147483563 by decide), ?_⟩⟩⟩⟩⟩
        refine ⟨_, s0, a, _, 1, 1, rfl, rfl, h1, rfl, ?_⟩
        have w1 : 0 ≤ ((y * (y % 10007 + 20011) + 60013 * (z + 1) + 61) % 2147483563) :=  Int.emod_nonneg _ (by decide)
        have w2 : ((y * (y % 10007 + 20011) + 60013 * (z + 1) + 61) % 2147483563) < 2147483563 :=  Int.emod_lt_of_pos _ (by decide)
        have h2 : (upd (upd H a (.lst ([V.int x, V.int y, V.int z].set 2 (V.int (z + 1))))) a (.lst ([V.int x, V.int y, V.int (z + 1)].set 1 (V.int (((y * (y % 10007 + 20011) + 60013 * (z + 1) + 61) % 2147483563)))))) a = some (.lst [V.int x, V.int (((y * (y % 10007 + 20011) + 60013 * (z + 1) + 61) % 2147483563)), V.int (z + 1)]) := upd_same
        refine pot1 s0 h2 ⟨((y * (y % 10007 + 20011) + 60013 * (z + 1) + 61) % 2147483563), 97, rfl, rfl, ⟨by decide, by decide⟩, .inl ⟨_, rfl, _, s1, _, n, rfl, rfl, n1, ?_⟩⟩
        have p1 : PotAt (upd H a (.lst ([V.int x, V.int y, V.int z].set 2 (V.int (z + 1))))) a := ⟨x, y, z + 1, h1, hx, hy1, hy2, by omega⟩
        have p2 : PotAt (upd (upd H a (.lst ([V.int x, V.int y, V.int z].set 2 (V.int (z + 1))))) a (.lst ([V.int x, V.int y, V.int (z + 1)].set 1 (V.int (((y * (y % 10007 + 20011) + 60013 * (z + 1) + 61) % 2147483563)))))) a := ⟨x, ((y * (y % 10007 + 20011) + 60013 * (z + 1) + 61) % 2147483563), z + 1, h2, hx, w1, by omega, by omega⟩
        exact k _ _ F (.val (.int (((y * (y % 10007 + 20011) + 60013 * (z + 1) + 61) % 2147483563) / 97 % n))) ((f0.pset p1).pset p2) (.int _) (kq _ (Int.emod_nonneg _ (by omega)) (Int.emod_lt_of_pos _ n1))
theorem draw_len {K : PySem.W.Frag} {F H : Hp} {pt : Option Addr} {vs : List V} {as : List Ag} {Q' : Re → Prop} (r : AgL K F (hid H pt) pt vs as) (c : drawF as Q') : vs.length = 2 := by
  unfold drawF at c
  split at c
  · cases r with
    | cons _ r =>
      cases r with
      | cons _ r => cases r; rfl
  · exact c.elim

/-! ### a new list becomes the pot of a def that is called -/
def calP (c : FX) (a : EX) : EX := fun ρ => bnd (a ρ) fun r => match r with
  | .fr (.list [.int x, .int y, .int z]) => if 0 ≤ x ∧ 0 ≤ y ∧ y < 2147483648 ∧ 0 ≤ z then bnd (c [.pot]) (fun r => ret r.rr) else fail
  | _ => fail
theorem calP_ok {c : FX} {r : Rr} {Q : Rr → Prop} (h : (match r with
  | .fr (.list [.int x, .int y, .int z]) => if 0 ≤ x ∧ 0 ≤ y ∧ y < 2147483648 ∧ 0 ≤ z then bnd (c [.pot]) (fun r => ret r.rr) else fail
  | _ => fail : M Rr) Q) : ∃ x y z : Int, r = .fr (.list [.int x, .int y, .int z]) ∧ 0 ≤ x ∧ 0 ≤ y ∧ y < 2147483648 ∧ 0 ≤ z ∧ c [.pot] fun r => Q r.rr := by
  split at h
  · rename_i x y z
    by_cases k : 0 ≤ x ∧ 0 ≤ y ∧ y < 2147483648 ∧ 0 ≤ z
    · rw [if_pos k] at h; exact ⟨x, y, z, rfl, k.1, k.2.1, k.2.2.1, k.2.2.2, h⟩
    · rw [if_neg k] at h; exact h.elim
  · exact h.elim
theorem px_calP {X : Cx} {a : Expr} {pa : EX} {pos p' : Pos} {k j : Nat} {x : Str} {ps : List Str} {c : FX} (C : Cal X.prog X.w X.K X.mg X.base k x ps c) (hr : Room j X.A) (hk : k ≤ j) (ha : PX X a pa) (hg : Gl X x := by (unfold L2.Gl; kernel_rfl)) (hd : (x == ("__debug__" : Str)) = false := by decide)
    (he : starEach [a] X.env = (false, eval a X.env) :: starEach [] X.env := by rfl) (hpl : (backTo pos (starEach [] X.env)).any (·.1) = false := by rfl) : PX X (.Call (.Name x p') [a] [] pos) (calP c pa) := by
  obtain ⟨f, fd, F, hm, kp, hb⟩ := C.ok
  refine PE.weak (pe_call F (hr.mono hk) hg hm kp hb .nil pass0 (pa_cons ha pa_nil he) hd he hpl) fun σ H Q ⟨B, F, ρ, Q', rp, hp, kt⟩ => ?_
  refine ⟨B, F, ρ, _, rp, hp, fun v H1 F1 r f rv q => ?_⟩
  obtain ⟨x, y, z, rfl, b1, b2, b3, b4, q⟩ := calP_ok q
  obtain ⟨p, rfl, h1, h2, h3, xs, hx, rl, _⟩ := rv
  have exs : xs = [V.int x, V.int y, V.int z] := by
    cases rl with
    | cons u1 rl =>
      cases rl with
      | cons u2 rl =>
        cases rl with
        | cons u3 rl => cases rl; cases u1; cases u2; cases u3; rfl
  subst exs
  refine ⟨some p, F1, [.pot], _, fun c o h => ?_, fun c e => ?_, .cons ⟨p, rfl, rfl⟩ .nil, q, fun v H2 F2 re f2 rr q2 => ?_⟩
  · have hc : some p ≠ some c := fun e => by cases e; rw [h3] at h; cases h
    rw [hid_ne hc]; exact f.fsame c o h
  · cases e; exact ⟨x, y, z, hx, b1, b2, b3, b4⟩
  · have st : ∀ c o, hid H B.pt c = some o → hid H1 (some p) c = some o := fun c o h => by
      have hc : some p ≠ some c := fun e => by cases e; rw [h1] at h; cases h
      rw [hid_ne hc]; exact f.rh c o h
    have pst : ∀ c, B.pt = some c → hid H1 (some p) c = H1 c := fun c e => hid_ne fun z => h2 (by rw [e, ← z])
    have f3 : Fr B.pt F (hid H B.pt) F2 H2 := by
      refine ⟨f.ff.trans f2.ff, fun c h => ?_, fun c o h => f2.rh c o (st c o h), fun c e => hid_pt e, fun c o h => ?_, fun c e => ?_⟩
      · cases e : hid H B.pt c with
        | none => exact absurd e h
        | some o =>
          have e1 := st c o e
          rcases f2.fn c (by rw [e1]; exact fun z => nomatch z) with g | ⟨xs, g⟩
          · rcases f.fn c h with g2 | ⟨xs, g2⟩
            · exact .inl (g.trans g2)
            · exact .inr ⟨xs, e.symm.trans g2⟩
          · rw [e1] at g; exact .inr ⟨xs, g⟩
      · by_cases hc : B.pt = some c
        · obtain ⟨x', y', z', g, _⟩ := f.pot c hc
          have e1 : hid H1 (some p) c = some (.lst [.int x', .int y', .int z']) := (pst c hc).trans g
          rcases f2.fn c (by rw [e1]; exact fun z => nomatch z) with g2 | ⟨xs, g2⟩
          · rw [g2] at h
            exact absurd hc (hid_some (f.fh c o h)).1
          · rw [e1] at g2; cases g2
        · rw [hid_ne hc]; exact f2.fsame c o h
      · obtain ⟨x', y', z', g, w⟩ := f.pot c e
        exact ⟨x', y', z', f2.rh c _ ((pst c e).trans g), w⟩
    refine kt v H2 F2 re.rr f3 ?_ q2
    cases re with
    | val d => exact rr
    | fr o =>
      obtain ⟨q, e, g1, g2, g3, g4⟩ := rr
      have hq : ∀ u, H1 q ≠ some u := fun u hu => by
        rw [hid_ne g2] at g1; rw [g1] at hu; cases hu
      refine ⟨q, e, ?_, fun e => ?_, g3, g4⟩
      · cases c : hid H B.pt q with
        | none => rfl
        | some u => exact absurd (f.rh q u c) (hq u)
      · obtain ⟨x', y', z', g, _⟩ := f.pot q e
        exact absurd g (hq _)

/-! ### the law -/
theorem ints_rv {K : PySem.W.Frag} {F : Hp} : ∀ ns : List Int, RvL K F (ns.map V.int) (ns.map D.int)
  | [] => .nil
  | n :: ns => .cons (.int n) (ints_rv ns)
theorem law_sp {K : PySem.W.Frag} {c : FX} {H : Hp} {a : Addr} {ns : List Int} (hl : ns.length ≤ lim) (h : SqL K H a (ns.map V.int)) (hc : c [.d (.list (ns.map D.int))] fun r => r = .val (.bool true)) : spP K c [.ref a] H (fun v _ => v = .bl true) fun _ _ _ => False := by
  have e : hid H none = H := by funext b; unfold hid; rw [if_neg (fun z => nomatch z)]
  refine ⟨none, fun _ => none, [.d (.list (ns.map D.int))], _, (fun c o z => by cases z), (fun c z => by cases z), .cons ?_ .nil, hc, fun v H2 F2 r f rr q => ?_⟩
  · rw [e]
    exact ⟨a, _, rfl, h, ints_rv ns, by rw [List.length_map]; exact lim_line hl⟩
  · subst q
    cases (show Rv K F2 v (.bool true) from rr)
    rfl
end PV

set_option Elab.async false
set_option linter.all false
set_option maxRecDepth 100000
/-! PvX: plain facts about the operations: whole numbers, pairs, lists of them. -/
namespace PV
open PySem
abbrev Pr := Int × Int
def prD (a : Pr) : D := .tuple [.int a.1, .int a.2]
def isD' (l : List Int) : List D := l.map D.int
@[simp] theorem eqB_int (i j : Int) : eqB (.int i) (.int j) = decide (i = j) := by
  unfold eqB; simp only [D.p, PyData.eqv]; rfl
@[simp] theorem eqB_pr (a b : Pr) : eqB (prD a) (prD b) = decide (a = b) := by
  unfold eqB prD
  simp only [D.p, D.ps, PyData.eqv, PyData.eqvAll, Prod.ext_iff, Bool.and_true, Bool.decide_and]; rfl
theorem shp_of {d : D} (h1 : d.p.canLay0 = true) (h2 : d.p.depth ≤ 64) : shp d = true := by
  unfold shp SeqAt.shaped
  rw [h1, decide_eq_true h2]; rfl
theorem lay_all {xs : List D} (h : ∀ x ∈ xs, x.p.canLay0 = true) : PyData.canLayAll0 (D.ps xs) = true := by
  induction xs with
  | nil => simp [D.ps, PyData.canLayAll0]
  | cons x xs ih => simp only [D.ps, PyData.canLayAll0]; rw [h x List.mem_cons_self, ih fun y hy => h y (List.mem_cons_of_mem _ hy)]; rfl
theorem dep_all {n : Nat} {xs : List D} (h : ∀ x ∈ xs, x.p.depth ≤ n) : PyData.depthAll (D.ps xs) ≤ n := by
  induction xs with
  | nil => simp [D.ps, PyData.depthAll]
  | cons x xs ih =>
    simp only [D.ps, PyData.depthAll]
    have h1 := h x List.mem_cons_self
    have h2 := ih fun y hy => h y (List.mem_cons_of_mem _ hy)
    omega
@[simp] theorem shp_int (i : Int) : shp (.int i) = true := shp_of (by simp [D.p, PyData.canLay0]) (by simp [D.p, PyData.depth])
@[simp] theorem shp_non : shp .none = true := shp_of (by simp [D.p, PyData.canLay0]) (by simp [D.p, PyData.depth])
@[simp] theorem shp_bl (b : Bool) : shp (.bool b) = true := shp_of (by simp [D.p, PyData.canLay0]) (by simp [D.p, PyData.depth])
theorem lay_pr (a : Pr) : (prD a).p.canLay0 = true := by simp [prD, D.p, D.ps, PyData.canLay0, PyData.canLayAll0]
theorem dep_pr (a : Pr) : (prD a).p.depth ≤ 1 := by simp [prD, D.p, D.ps, PyData.depth, PyData.depthAll]
@[simp] theorem shp_pr (a : Pr) : shp (prD a) = true := shp_of (lay_pr a) (by have := dep_pr a; omega)
theorem shp_list {xs : List D} (h : ∀ x ∈ xs, x.p.canLay0 = true ∧ x.p.depth ≤ 60) : shp (.list xs) = true ∧ shp (.tuple xs) = true := by
  have h1 := lay_all fun x hx => (h x hx).1
  have h2 := dep_all (n := 60) fun x hx => (h x hx).2
  exact ⟨shp_of (by simpa [D.p, PyData.canLay0] using h1) (by simp only [D.p, PyData.depth]; omega), shp_of (by simpa [D.p, PyData.canLay0] using h1) (by simp only [D.p, PyData.depth]; omega)⟩
theorem shp_ints (l : List Int) : shp (.list (l.map D.int)) = true ∧ shp (.tuple (l.map D.int)) = true := shp_list fun x hx => by
  obtain ⟨i, _, rfl⟩ := List.mem_map.mp hx
  exact ⟨by simp [D.p, PyData.canLay0], by simp [D.p, PyData.depth]⟩
theorem shp_prs (l : List Pr) : shp (.list (l.map prD)) = true ∧ shp (.tuple (l.map prD)) = true := shp_list fun x hx => by
  obtain ⟨i, _, rfl⟩ := List.mem_map.mp hx
  exact ⟨lay_pr i, by have := dep_pr i; omega⟩
@[simp] theorem shp_ints1 (l : List Int) : shp (.list (l.map D.int)) = true := (shp_ints l).1
@[simp] theorem shp_ints2 (l : List Int) : shp (.tuple (l.map D.int)) = true := (shp_ints l).2
@[simp] theorem shp_prs1 (l : List Pr) : shp (.list (l.map prD)) = true := (shp_prs l).1
@[simp] theorem shp_prs2 (l : List Pr) : shp (.tuple (l.map prD)) = true := (shp_prs l).2
@[simp] theorem eqD_int (i j : Int) : eqD (.int i) (.int j) = some (.bool (decide (i = j))) := by unfold eqD; simp
@[simp] theorem neD_int (i j : Int) : neD (.int i) (.int j) = some (.bool (!decide (i = j))) := by unfold neD; simp
@[simp] theorem eqD_pr (i j : Pr) : eqD (prD i) (prD j) = some (.bool (decide (i = j))) := by unfold eqD; simp
@[simp] theorem neD_pr (i j : Pr) : neD (prD i) (prD j) = some (.bool (!decide (i = j))) := by unfold neD; simp
theorem any_int (l : List Int) (x : Int) : (l.map D.int).any (fun z => eqB z (.int x)) = decide (x ∈ l) := by
  induction l with
  | nil => simp
  | cons a l ih =>
    rw [List.map_cons, List.any_cons, ih, eqB_int]
    by_cases h : a = x
    · simp [h]
    · have : x ≠ a := fun z => h z.symm
      simp [h, this]
theorem any_pr (l : List Pr) (x : Pr) : (l.map prD).any (fun z => eqB z (prD x)) = decide (x ∈ l) := by
  induction l with
  | nil => simp
  | cons a l ih =>
    rw [List.map_cons, List.any_cons, ih, eqB_pr]
    by_cases h : a = x
    · simp [h]
    · have : x ≠ a := fun z => h z.symm
      simp [h, this]
@[simp] theorem inD_ints1 (l : List Int) (x : Int) : inD (.int x) (.list (l.map D.int)) = some (.bool (decide (x ∈ l))) := by (show (if shp (.int x) = true ∧ shp (.list (l.map D.int)) = true then some (D.bool _) else none) = _); rw [if_pos ⟨shp_int x, shp_ints1 l⟩, any_int]
@[simp] theorem inD_ints2 (l : List Int) (x : Int) : inD (.int x) (.tuple (l.map D.int)) = some (.bool (decide (x ∈ l))) := by (show (if shp (.int x) = true ∧ shp (.tuple (l.map D.int)) = true then some (D.bool _) else none) = _); rw [if_pos ⟨shp_int x, shp_ints2 l⟩, any_int]
@[simp] theorem ninD_ints1 (l : List Int) (x : Int) : ninD (.int x) (.list (l.map D.int)) = some (.bool (!decide (x ∈ l))) := by (show (if shp (.int x) = true ∧ shp (.list (l.map D.int)) = true then some (D.bool _) else none) = _); rw [if_pos ⟨shp_int x, shp_ints1 l⟩, any_int]
@[simp] theorem ninD_ints2 (l : List Int) (x : Int) : ninD (.int x) (.tuple (l.map D.int)) = some (.bool (!decide (x ∈ l))) := by (show (if shp (.int x) = true ∧ shp (.tuple (l.map D.int)) = true then some (D.bool _) else none) = _); rw [if_pos ⟨shp_int x, shp_ints2 l⟩, any_int]
@[simp] theorem inD_prs1 (l : List Pr) (x : Pr) : inD (prD x) (.list (l.map prD)) = some (.bool (decide (x ∈ l))) := by
  show (if shp (prD x) = true ∧ shp (.list (l.map prD)) = true then some (D.bool _) else none) = _
  rw [if_pos ⟨shp_pr x, shp_prs1 l⟩, any_pr]
@[simp] theorem inD_prs2 (l : List Pr) (x : Pr) : inD (prD x) (.tuple (l.map prD)) = some (.bool (decide (x ∈ l))) := by
  show (if shp (prD x) = true ∧ shp (.tuple (l.map prD)) = true then some (D.bool _) else none) = _
  rw [if_pos ⟨shp_pr x, shp_prs2 l⟩, any_pr]
@[simp] theorem ninD_prs1 (l : List Pr) (x : Pr) : ninD (prD x) (.list (l.map prD)) = some (.bool (!decide (x ∈ l))) := by
  show (if shp (prD x) = true ∧ shp (.list (l.map prD)) = true then some (D.bool _) else none) = _
  rw [if_pos ⟨shp_pr x, shp_prs1 l⟩, any_pr]
@[simp] theorem ninD_prs2 (l : List Pr) (x : Pr) : ninD (prD x) (.tuple (l.map prD)) = some (.bool (!decide (x ∈ l))) := by
  show (if shp (prD x) = true ∧ shp (.tuple (l.map prD)) = true then some (D.bool _) else none) = _
  rw [if_pos ⟨shp_pr x, shp_prs2 l⟩, any_pr]
theorem eqv_nil (xs : List D) : eqB (.list xs) (.list []) = xs.isEmpty ∧ eqB (.tuple xs) (.tuple []) = xs.isEmpty := by
  unfold eqB
  cases xs with
  | nil => simp [D.p, D.ps, PyData.eqv, PyData.eqvAll]
  | cons x xs => simp [D.p, D.ps, PyData.eqv, PyData.eqvAll]
theorem shp_nil : shp (.list []) = true ∧ shp (.tuple []) = true := shp_list fun x hx => by cases hx
theorem eqD_nil {xs : List D} (h : shp (.list xs) = true) : eqD (.list xs) (.list []) = some (.bool xs.isEmpty) := by unfold eqD; simp [h, shp_nil.1, (eqv_nil xs).1]
theorem neD_nil {xs : List D} (h : shp (.list xs) = true) : neD (.list xs) (.list []) = some (.bool (!xs.isEmpty)) := by unfold neD; simp [h, shp_nil.1, (eqv_nil xs).1]
theorem eqD_nilT {xs : List D} (h : shp (.tuple xs) = true) : eqD (.tuple xs) (.tuple []) = some (.bool xs.isEmpty) := by unfold eqD; simp [h, shp_nil.2, (eqv_nil xs).2]

/-! ### dicts from pairs to whole numbers -/
abbrev Tn := List (Pr × Int)
def kyP (a : Pr) : List Ky := [.inl a.1, .inl a.2]
def tnD (t : Tn) : List (List Ky × D) := t.map fun q => (kyP q.1, .int q.2)
def lk (t : Tn) (a : Pr) : Option Int := (t.find? fun q => decide (q.1 = a)).map (·.2)
theorem kyP_inj {a b : Pr} : kyP a = kyP b ↔ a = b := by
  unfold kyP
  constructor
  · intro h
    simp at h
    exact Prod.ext h.1 h.2
  · intro h; rw [h]
@[simp] theorem tkOf_pr (a : Pr) : tkOf (prD a) = some (kyP a) := rfl
theorem find_tn (t : Tn) (a : Pr) : find (tnD t) (kyP a) = (lk t a).map D.int := by
  unfold find tnD lk
  induction t with
  | nil => rfl
  | cons q t ih =>
    rw [List.map_cons, List.find?_cons, List.find?_cons]
    by_cases h : q.1 = a
    · simp [h]
    · have : ¬ kyP q.1 = kyP a := fun z => h (kyP_inj.mp z)
      simp only [h, this, decide_false]
      exact ih
@[simp] theorem dget_tn (t : Tn) (a : Pr) : dget (.dt (tnD t)) (prD a) = some ((lk t a).map D.int) := by
  show (tkOf (prD a)).map (find (tnD t)) = _
  rw [tkOf_pr, Option.map_some, find_tn]
@[simp] theorem inD_tn (t : Tn) (a : Pr) : inD (prD a) (.dt (tnD t)) = some (.bool (lk t a).isSome) := by
  show (dget (.dt (tnD t)) (prD a)).map (fun o => D.bool o.isSome) = _
  rw [dget_tn]; simp
@[simp] theorem ninD_tn (t : Tn) (a : Pr) : ninD (prD a) (.dt (tnD t)) = some (.bool (!(lk t a).isSome)) := by
  show (dget (.dt (tnD t)) (prD a)).map (fun o => D.bool (!o.isSome)) = _
  rw [dget_tn]; simp

/-! ### sorted whole numbers, pairs -/
theorem dle_int (i j : Int) : PySem.W.dataLe false D.p (.int i) (.int j) = decide (i ≤ j) := by
  have h := congrFun (congrFun (PySem.W.dataLe_int (β := Int) (fun i => i)) i) j
  exact h
theorem dle_pr (a b : Pr) : PySem.W.dataLe false D.p (prD a) (prD b) = decide (a.1 < b.1 ∨ (a.1 = b.1 ∧ a.2 ≤ b.2)) := by
  have h := congrFun (congrFun (PySem.W.dataLe_ii (β := Pr) (fun i => i.1) (fun i => i.2)) a) b
  exact h
theorem merge_map {α : Type} (f : α → D) (le : α → α → Bool) (h : ∀ a b, PySem.W.dataLe false D.p (f a) (f b) = le a b) (l : List α) : dsort (l.map f) = (l.mergeSort le).map f := by
  unfold dsort
  exact (List.map_mergeSort (f := f) (r := le) (s := PySem.W.dataLe false D.p) (l := l) (fun a _ b _ => (h a b).symm)).symm
def isort (l : List Int) : List Int := l.mergeSort fun a b => decide (a ≤ b)
def prLe (a b : Pr) : Bool := decide (a.1 < b.1 ∨ (a.1 = b.1 ∧ a.2 ≤ b.2))
def psort (l : List Pr) : List Pr := l.mergeSort prLe
theorem dsort_ints (l : List Int) : dsort (l.map D.int) = (isort l).map D.int := merge_map D.int _ dle_int l
theorem dsort_prs (l : List Pr) : dsort (l.map prD) = (psort l).map prD := merge_map prD _ dle_pr l
theorem okSort_ints (l : List Int) : okSort (l.map D.int) = true := by
  unfold okSort
  rw [Bool.and_eq_true]
  constructor
  · rw [List.all_eq_true]
    intro a ha
    obtain ⟨i, _, rfl⟩ := List.mem_map.mp ha
    simp only [shp_int, isNon, Bool.not_false, Bool.true_and, Bool.and_true, List.all_eq_true]
    intro b hb
    obtain ⟨j, _, rfl⟩ := List.mem_map.mp hb
    simp [D.p, PySem.W.alike]
  · rw [Bool.or_eq_true]
    right
    rw [List.all_eq_true]
    intro a ha
    obtain ⟨i, _, rfl⟩ := List.mem_map.mp ha
    rfl
theorem okSort_prs (l : List Pr) : okSort (l.map prD) = true := by
  unfold okSort
  rw [Bool.and_eq_true]
  constructor
  · rw [List.all_eq_true]
    intro a ha
    obtain ⟨i, _, rfl⟩ := List.mem_map.mp ha
    rw [Bool.and_eq_true, Bool.and_eq_true]
    refine ⟨⟨shp_pr i, rfl⟩, ?_⟩
    rw [List.all_eq_true]
    intro b hb
    obtain ⟨j, _, rfl⟩ := List.mem_map.mp hb
    simp [prD, D.p, D.ps, PySem.W.alike, PySem.W.alikeAll]
  · rw [Bool.or_eq_true]
    left
    rw [List.all_eq_true]
    intro a ha
    obtain ⟨i, _, rfl⟩ := List.mem_map.mp ha
    rfl
theorem sortE_ints (l : List Int) : sortE (.list (l.map D.int)) = some (.list ((isort l).map D.int)) := by
  show (if okSort (l.map D.int) = true then some (D.list (dsort (l.map D.int))) else none) = _
  rw [if_pos (okSort_ints l), dsort_ints]
theorem sortE_prs (l : List Pr) : sortE (.list (l.map prD)) = some (.list ((psort l).map prD)) := by
  show (if okSort (l.map prD) = true then some (D.list (dsort (l.map prD))) else none) = _
  rw [if_pos (okSort_prs l), dsort_prs]
theorem isort_perm (l : List Int) : (isort l).Perm l := List.mergeSort_perm l _
theorem psort_perm (l : List Pr) : (psort l).Perm l := List.mergeSort_perm l _
theorem isort_sorted (l : List Int) : (isort l).Pairwise fun a b => a ≤ b := by
  have h := List.pairwise_mergeSort (le := fun a b : Int => decide (a ≤ b)) (fun a b c h1 h2 => by simp only [decide_eq_true_eq] at *; omega) (fun a b => by simp only [Bool.or_eq_true, decide_eq_true_eq]; omega) l
  exact h.imp fun h => of_decide_eq_true h
theorem psort_sorted (l : List Pr) : (psort l).Pairwise fun a b => prLe a b = true := by
  have h := List.pairwise_mergeSort (le := prLe) (fun a b c h1 h2 => by simp only [prLe, decide_eq_true_eq] at *; omega) (fun a b => by simp only [prLe, Bool.or_eq_true, decide_eq_true_eq]; omega) l
  exact h
/-- two ascending lists with the same numbers -/
theorem asc_eq : ∀ {l m : List Int}, l.Pairwise (· < ·) → m.Pairwise (· < ·) → (∀ x, x ∈ l ↔ x ∈ m) → l = m
  | [], [], _, _, _ => rfl
  | [], y :: m, _, _, h => by have := (h y).mpr List.mem_cons_self; cases this
  | x :: l, [], _, _, h => by have := (h x).mp List.mem_cons_self; cases this
  | x :: l, y :: m, h1, h2, h => by
    obtain ⟨a1, a2⟩ := List.pairwise_cons.mp h1
    obtain ⟨b1, b2⟩ := List.pairwise_cons.mp h2
    have e : x = y := by
      rcases List.mem_cons.mp ((h x).mp List.mem_cons_self) with e | e
      · exact e
      · rcases List.mem_cons.mp ((h y).mpr List.mem_cons_self) with e2 | e2
        · exact e2.symm
        · have := b1 x e; have := a1 y e2; omega
    subst e
    congr 1
    refine asc_eq a2 b2 fun z => ?_
    constructor
    · intro hz
      rcases List.mem_cons.mp ((h z).mp (List.mem_cons_of_mem _ hz)) with e | e
      · have := a1 z hz; omega
      · exact e
    · intro hz
      rcases List.mem_cons.mp ((h z).mpr (List.mem_cons_of_mem _ hz)) with e | e
      · have := b1 z hz; omega
      · exact e
theorem isort_asc {l : List Int} (h : l.Nodup) : (isort l).Pairwise (· < ·) := by
  have h1 := isort_sorted l
  have h2 : (isort l).Nodup := (isort_perm l).nodup_iff.mpr h
  exact (h1.and h2).imp fun ⟨a, b⟩ => by have := a; omega
/-- sorted numbers, no two alike, are the ascending list of the same numbers -/
theorem isort_eq {l m : List Int} (h : l.Nodup) (hm : m.Pairwise (· < ·)) (e : ∀ x, x ∈ l ↔ x ∈ m) : isort l = m :=
  asc_eq (isort_asc h) hm fun x => ((isort_perm l).mem_iff).trans (e x)

/-! ### loops of comprehensions -/
theorem wGo_k1 {tg : TX} {t : Rho → M Bool} {e : EX} {ρ : Rho} {b : D → Bool} {g : D → D} : ∀ (xs acc : List D), (∀ x ∈ xs, ∃ ρ1, tg x ρ = some ρ1 ∧ t ρ1 = ret (b x) ∧ (b x = true → fzv e ρ1 = ret (g x))) → acc.length + xs.length ≤ lim →
    wGo tg (k1 t e) ρ xs acc = ret (acc ++ (xs.filter b).map g)
  | [], acc, _, _ => by simp [wGo]
  | x :: xs, acc, h, hl => by
    obtain ⟨ρ1, h1, h2, h3⟩ := h x List.mem_cons_self
    rw [List.length_cons] at hl
    have ih := fun acc' h' => wGo_k1 xs acc' (fun y hy => h y (List.mem_cons_of_mem _ hy)) h'
    unfold wGo
    rw [h1]
    show bnd (k1 t e ρ1 acc) _ = _
    unfold k1
    rw [h2]
    show bnd (if b x = true then _ else _) _ = _
    by_cases c : b x = true
    · rw [if_pos c, h3 c]
      show bnd (if acc.length < lim then ret (acc ++ [g x]) else fail) _ = _
      rw [if_pos (by omega)]
      show wGo tg (k1 t e) ρ xs (acc ++ [g x]) = _
      rw [ih _ (by rw [List.length_append, List.length_singleton]; omega), List.filter_cons, if_pos c, List.map_cons, List.append_assoc]
      rfl
    · rw [if_neg c]
      show wGo tg (k1 t e) ρ xs acc = _
      rw [ih _ (by omega), List.filter_cons, if_neg c]
/-- as an expression -/
theorem lc_eq {w : WX} {tg : TX} {t : Rho → M Bool} {e : EX} {vs : List Nat} {ρ : Rho} {xs : List D} {b : D → Bool} {g : D → D} (hw : w ρ = ret xs) (h : ∀ x ∈ xs, ∃ ρ1, tg x (inb vs ρ) = some ρ1 ∧ t ρ1 = ret (b x) ∧ (b x = true → fzv e ρ1 = ret (g x))) (hl : xs.length ≤ lim) :
    lcE w tg (k1 t e) vs ρ = ret (.fr (.list ((xs.filter b).map g))) := by
  unfold lcE
  rw [hw]
  show bnd (wGo tg (k1 t e) (inb vs ρ) xs []) _ = _
  rw [wGo_k1 xs [] h (by simpa using hl)]
  simp
theorem wGo_k2 {tg tg1 : TX} {t t1 : Rho → M Bool} {w1 : WX} {vs1 : List Nat} {e : EX} {ρ : Rho} {F : D → List D} {n : Nat} : ∀ (xs acc : List D), (∀ x ∈ xs, (F x).length ≤ n ∧ ∃ ρ1 ys, tg x ρ = some ρ1 ∧ t ρ1 = ret true ∧ w1 ρ1 = ret ys ∧ ∀ acc : List D, acc.length + n ≤ lim → wGo tg1 (k1 t1 e) (inb2 vs1 ρ1) ys acc = ret (acc ++ F x)) →
    acc.length + n * xs.length ≤ lim → wGo tg (k2 t w1 tg1 vs1 (k1 t1 e)) ρ xs acc = ret (acc ++ xs.flatMap F)
  | [], acc, _, _ => by simp [wGo]
  | x :: xs, acc, h, hl => by
    obtain ⟨hn, ρ1, ys, h1, h2, h3, h4⟩ := h x List.mem_cons_self
    rw [List.length_cons, Nat.mul_add, Nat.mul_one] at hl
    unfold wGo
    rw [h1]
    show bnd (k2 t w1 tg1 vs1 (k1 t1 e) ρ1 acc) _ = _
    unfold k2
    rw [h2]
    show bnd (bnd (w1 ρ1) _) _ = _
    rw [h3]
    show bnd (wGo tg1 (k1 t1 e) (inb2 vs1 ρ1) ys acc) _ = _
    rw [h4 acc (by omega)]
    show wGo tg (k2 t w1 tg1 vs1 (k1 t1 e)) ρ xs (acc ++ F x) = _
    rw [wGo_k2 xs _ (fun y hy => h y (List.mem_cons_of_mem _ hy)) (by rw [List.length_append]; omega), List.flatMap_cons, List.append_assoc]
/-- over a list given by a map -/
theorem lc_map {α : Type} {f : α → D} {l : List α} {b : α → Bool} {g : α → D} {w : WX} {tg : TX} {t : Rho → M Bool} {e : EX} {vs : List Nat} {ρ : Rho} (hw : w ρ = ret (l.map f)) (h : ∀ a ∈ l, ∃ ρ1, tg (f a) (inb vs ρ) = some ρ1 ∧ t ρ1 = ret (b a) ∧ (b a = true → fzv e ρ1 = ret (g a))) (hl : l.length ≤ lim) :
    lcE w tg (k1 t e) vs ρ = ret (.fr (.list ((l.filter b).map g))) := by
  have key : ∀ (l : List α) (acc : List D), (∀ a ∈ l, ∃ ρ1, tg (f a) (inb vs ρ) = some ρ1 ∧ t ρ1 = ret (b a) ∧ (b a = true → fzv e ρ1 = ret (g a))) → acc.length + l.length ≤ lim → wGo tg (k1 t e) (inb vs ρ) (l.map f) acc = ret (acc ++ (l.filter b).map g) := by
    intro l
    induction l with
    | nil => intro acc _ _; simp [wGo]
    | cons x xs ih =>
      intro acc h hl
      obtain ⟨ρ1, h1, h2, h3⟩ := h x List.mem_cons_self
      rw [List.length_cons] at hl
      rw [List.map_cons]
      unfold wGo
      rw [h1]
      show bnd (k1 t e ρ1 acc) _ = _
      unfold k1
      rw [h2]
      show bnd (if b x = true then _ else _) _ = _
      by_cases c : b x = true
      · rw [if_pos c, h3 c]
        show bnd (if acc.length < lim then ret (acc ++ [g x]) else fail) _ = _
        rw [if_pos (by omega)]
        show wGo tg (k1 t e) (inb vs ρ) (xs.map f) (acc ++ [g x]) = _
        rw [ih _ (fun y hy => h y (List.mem_cons_of_mem _ hy)) (by rw [List.length_append, List.length_singleton]; omega), List.filter_cons, if_pos c, List.map_cons, List.append_assoc]
        rfl
      · rw [if_neg c]
        show wGo tg (k1 t e) (inb vs ρ) (xs.map f) acc = _
        rw [ih _ (fun y hy => h y (List.mem_cons_of_mem _ hy)) (by omega), List.filter_cons, if_neg c]
  unfold lcE
  rw [hw]
  show bnd (wGo tg (k1 t e) (inb vs ρ) (l.map f) []) _ = _
  rw [key l [] h (by simpa using hl)]
  simp
theorem boolL_map {α : Type} (g : α → Bool) (l : List α) : boolL (l.map fun a => D.bool (g a)) = some (l.map g) := by
  induction l with
  | nil => rfl
  | cons x xs ih => rw [List.map_cons]; show (boolL (xs.map fun a => D.bool (g a))).map (g x :: ·) = _; rw [ih]; rfl
theorem all_map {α : Type} (g : α → Bool) (l : List α) : allD (.list (l.map fun a => D.bool (g a))) = some (.bool (l.all g)) := by
  show (boolL (l.map fun a => D.bool (g a))).map (fun bs => D.bool (bs.all id)) = _
  rw [boolL_map]
  simp [List.all_map]
/-- ascending from 0 -/
def ups (n : Nat) : List Int := (List.range n).map fun i => ((i : Nat) : Int)
theorem mem_ups {n : Nat} {x : Int} : x ∈ ups n ↔ 0 ≤ x ∧ x < n := by
  unfold ups
  rw [List.mem_map]
  constructor
  · rintro ⟨i, hi, rfl⟩
    rw [List.mem_range] at hi
    omega
  · rintro ⟨h1, h2⟩
    exact ⟨x.toNat, by rw [List.mem_range]; omega, by omega⟩
theorem ups_len (n : Nat) : (ups n).length = n := by unfold ups; rw [List.length_map, List.length_range]
theorem ups_asc (n : Nat) : (ups n).Pairwise (· < ·) := by
  unfold ups
  rw [List.pairwise_map]
  exact List.pairwise_lt_range.imp fun h => by omega
theorem rng_ups (n : Nat) : rng 0 (n : Int) = (ups n).map D.int := by
  unfold rng ups
  rw [List.map_map]
  have : ((n : Int) - 0).toNat = n := by omega
  rw [this]
  apply List.map_congr_left
  intro i _
  simp
theorem okRng0 {n : Nat} (h : n ≤ 1000) : okRng 0 (n : Int) = true := by unfold okRng; exact decide_eq_true ⟨by omega, by omega, by unfold lim; omega⟩
theorem chn_ev {f g : Int → Int → Bool} {a b c : EX} {ρ : Rho} {i j k : Int} (h1 : rdv a ρ = ret (.int i)) (h2 : rdv b ρ = ret (.int j)) (h3 : rdv c ρ = ret (.int k)) : chn f g a b c ρ = ret (.val (.bool (f i j && g j k))) := by
  unfold chn
  rw [h1, h2]
  show (if f i j = true then _ else _) = _
  cases f i j with
  | true => rw [if_pos rfl, h3]; rfl
  | false => rfl
/-- without tests -/
theorem lc_mapY {α : Type} {f : α → D} {l : List α} {g : α → D} {w : WX} {tg : TX} {e : EX} {vs : List Nat} {ρ : Rho} (hw : w ρ = ret (l.map f)) (h : ∀ a ∈ l, ∃ ρ1, tg (f a) (inb vs ρ) = some ρ1 ∧ fzv e ρ1 = ret (g a)) (hl : l.length ≤ lim) :
    lcE w tg (k1 yes e) vs ρ = ret (.fr (.list (l.map g))) := by
  have := lc_map (b := fun _ => true) (t := yes) (e := e) (g := g) (tg := tg) (vs := vs) hw (fun a ha => let ⟨ρ1, h1, h2⟩ := h a ha; ⟨ρ1, h1, rfl, fun _ => h2⟩) hl
  rw [this, List.filter_eq_self.mpr (fun _ _ => rfl)]
@[simp] theorem ltD_int (i j : Int) : ltD (.int i) (.int j) = some (.bool (decide (i < j))) := rfl
def prLt (a b : Pr) : Bool := decide (a.1 < b.1 ∨ (a.1 = b.1 ∧ a.2 < b.2))
@[simp] theorem ltD_pr (a b : Pr) : ltD (prD a) (prD b) = some (.bool (prLt a b)) := by
  have h : okLt (prD a) (prD b) = true := by
    unfold okLt
    rw [shp_pr, shp_pr]
    simp [prD, D.p, D.ps, PySem.W.alike, PySem.W.alikeAll]
  show (if okLt (prD a) (prD b) = true then some (D.bool (dlt (prD a) (prD b))) else none) = _
  rw [if_pos h]
  unfold dlt prLt
  exact congrArg (fun x => some (D.bool x)) (PySem.W.dataLt_ii a.1 a.2 b.1 b.2)
theorem cut1 (xs : List D) : cutD xs (some 1) none = xs.drop 1 := by
  unfold cutD
  have h1 : HT.sIx xs.length xs.length none = xs.length := rfl
  have h2 : HT.sIx xs.length 0 (some (1 : Int)) = min 1 xs.length := HT.sIx_nat xs.length 0 1
  rw [h1, h2]
  cases xs with
  | nil => simp
  | cons x xs => simp
theorem zip_next {α : Type} {R : α → α → Prop} : ∀ {l : List α}, l.Pairwise R → ∀ p ∈ l.zip (l.drop 1), R p.1 p.2
  | [], _, p, h => by cases h
  | [x], _, p, h => by simp at h
  | x :: y :: l, hp, p, h => by
    obtain ⟨a1, a2⟩ := List.pairwise_cons.mp hp
    have h' : p ∈ (x, y) :: (y :: l).zip ((y :: l).drop 1) := by simpa using h
    rcases List.mem_cons.mp h' with e | h'
    · subst e; exact a1 y List.mem_cons_self
    · exact zip_next a2 p h'
theorem zipD_map {α : Type} (f : α → D) (l m : List α) : zipD (l.map f) (m.map f) = (l.zip m).map fun p => .tuple [f p.1, f p.2] := by
  unfold zipD
  rw [List.zip_map]
  simp [List.map_map]
theorem wGo_map {α : Type} {f : α → D} {b : α → Bool} {g : α → D} {tg : TX} {t : Rho → M Bool} {e : EX} {ρ : Rho} : ∀ (l : List α) (acc : List D), (∀ a ∈ l, ∃ ρ1, tg (f a) ρ = some ρ1 ∧ t ρ1 = ret (b a) ∧ (b a = true → fzv e ρ1 = ret (g a))) → acc.length + l.length ≤ lim →
    wGo tg (k1 t e) ρ (l.map f) acc = ret (acc ++ (l.filter b).map g)
  | [], acc, _, _ => by simp [wGo]
  | x :: xs, acc, h, hl => by
    obtain ⟨ρ1, h1, h2, h3⟩ := h x List.mem_cons_self
    rw [List.length_cons] at hl
    have ih := fun acc' h' => wGo_map xs acc' (fun y hy => h y (List.mem_cons_of_mem _ hy)) h'
    rw [List.map_cons]
    unfold wGo
    rw [h1]
    show bnd (k1 t e ρ1 acc) _ = _
    unfold k1
    rw [h2]
    show bnd (if b x = true then _ else _) _ = _
    by_cases c : b x = true
    · rw [if_pos c, h3 c]
      show bnd (if acc.length < lim then ret (acc ++ [g x]) else fail) _ = _
      rw [if_pos (by omega)]
      show wGo tg (k1 t e) ρ (xs.map f) (acc ++ [g x]) = _
      rw [ih _ (by rw [List.length_append, List.length_singleton]; omega), List.filter_cons, if_pos c, List.map_cons, List.append_assoc]
      rfl
    · rw [if_neg c]
      show wGo tg (k1 t e) ρ (xs.map f) acc = _
      rw [ih _ (by omega), List.filter_cons, if_neg c]
theorem wGo2_map {α β : Type} {f : α → D} {f1 : β → D} {ys : α → List β} {b1 : α → β → Bool} {g : α → β → D} {tg tg1 : TX} {t t1 : Rho → M Bool} {w1 : WX} {vs1 : List Nat} {e : EX} {ρ : Rho} {m : Nat} : ∀ (l : List α) (acc : List D),
    (∀ a ∈ l, (ys a).length ≤ m ∧ ∃ ρ1, tg (f a) ρ = some ρ1 ∧ t ρ1 = ret true ∧ w1 ρ1 = ret ((ys a).map f1) ∧ ∀ y ∈ ys a, ∃ ρ2, tg1 (f1 y) (inb2 vs1 ρ1) = some ρ2 ∧ t1 ρ2 = ret (b1 a y) ∧ (b1 a y = true → fzv e ρ2 = ret (g a y))) → acc.length + m * l.length ≤ lim →
    wGo tg (k2 t w1 tg1 vs1 (k1 t1 e)) ρ (l.map f) acc = ret (acc ++ l.flatMap fun a => ((ys a).filter (b1 a)).map (g a))
  | [], acc, _, _ => by simp [wGo]
  | x :: xs, acc, h, hl => by
    obtain ⟨hn, ρ1, h1, h2, h3, h4⟩ := h x List.mem_cons_self
    rw [List.length_cons, Nat.mul_add, Nat.mul_one] at hl
    rw [List.map_cons]
    unfold wGo
    rw [h1]
    show bnd (k2 t w1 tg1 vs1 (k1 t1 e) ρ1 acc) _ = _
    unfold k2
    rw [h2]
    show bnd (bnd (w1 ρ1) _) _ = _
    rw [h3]
    show bnd (wGo tg1 (k1 t1 e) (inb2 vs1 ρ1) ((ys x).map f1) acc) _ = _
    rw [wGo_map (ys x) acc h4 (by omega)]
    show wGo tg (k2 t w1 tg1 vs1 (k1 t1 e)) ρ (xs.map f) (acc ++ ((ys x).filter (b1 x)).map (g x)) = _
    have l1 := List.length_filter_le (b1 x) (ys x)
    rw [wGo2_map xs _ (fun y hy => h y (List.mem_cons_of_mem _ hy)) (by rw [List.length_append, List.length_map]; omega), List.flatMap_cons, List.append_assoc]
theorem lc2_map {α β : Type} {f : α → D} {f1 : β → D} {l : List α} {ys : α → List β} {b1 : α → β → Bool} {g : α → β → D} {w : WX} {tg tg1 : TX} {t t1 : Rho → M Bool} {w1 : WX} {vs vs1 : List Nat} {e : EX} {ρ : Rho} {m : Nat} (hw : w ρ = ret (l.map f))
    (h : ∀ a ∈ l, (ys a).length ≤ m ∧ ∃ ρ1, tg (f a) (inb vs ρ) = some ρ1 ∧ t ρ1 = ret true ∧ w1 ρ1 = ret ((ys a).map f1) ∧ ∀ y ∈ ys a, ∃ ρ2, tg1 (f1 y) (inb2 vs1 ρ1) = some ρ2 ∧ t1 ρ2 = ret (b1 a y) ∧ (b1 a y = true → fzv e ρ2 = ret (g a y))) (hl : m * l.length ≤ lim) :
    lcE w tg (k2 t w1 tg1 vs1 (k1 t1 e)) vs ρ = ret (.fr (.list (l.flatMap fun a => ((ys a).filter (b1 a)).map (g a)))) := by
  unfold lcE
  rw [hw]
  show bnd (wGo tg (k2 t w1 tg1 vs1 (k1 t1 e)) (inb vs ρ) (l.map f) []) _ = _
  rw [wGo2_map l [] h (by simpa using hl)]
  simp
/-- dict comprehensions: keys pairs that are not there yet -/
theorem find_none {t : Tn} {a : Pr} (h : lk t a = none) : ((tnD t).any fun p => decide (p.1 = kyP a)) = false := by
  rw [List.any_eq_false]
  intro p hp
  obtain ⟨q, hq, rfl⟩ := List.mem_map.mp hp
  simp only [decide_eq_true_eq]
  intro z
  have e := kyP_inj.mp z
  unfold lk at h
  rw [Option.map_eq_none_iff, List.find?_eq_none] at h
  have := h q hq
  simp [e] at this
theorem putL_tn {t : Tn} {a : Pr} {v : Int} (h : lk t a = none) : putL (tnD t) (kyP a) (.int v) = tnD (t ++ [(a, v)]) := by
  unfold putL
  rw [find_none h]
  simp [tnD]
theorem putO_tn {t : Tn} {a : Pr} {v : Int} (h : lk t a = none) (hl : t.length < lim) : putO (.dt (tnD t)) (prD a) (.int v) = some (.dt (tnD (t ++ [(a, v)]))) := by
  show (if (tnD t).length < lim then (tkOf (prD a)).map (fun k => D.dt (putL (tnD t) k (.int v))) else none) = _
  rw [if_pos (by unfold tnD; rw [List.length_map]; exact hl), tkOf_pr, Option.map_some, putL_tn h]
theorem lk_append (t s : Tn) (a : Pr) : lk (t ++ s) a = (lk t a).or (lk s a) := by
  unfold lk
  rw [List.find?_append]
  cases t.find? (fun q => decide (q.1 = a)) <;> rfl
theorem lk_none {t : Tn} {a : Pr} : lk t a = none ↔ a ∉ t.map (·.1) := by
  unfold lk
  rw [Option.map_eq_none_iff, List.find?_eq_none]
  constructor
  · intro h hm
    obtain ⟨q, hq, e⟩ := List.mem_map.mp hm
    exact h q hq (by simp [e])
  · intro h q hq z
    simp only [decide_eq_true_eq] at z
    exact h (List.mem_map.mpr ⟨q, hq, z⟩)
theorem wGo_kd {α : Type} {f : α → D} {kf : α → Pr} {vf : α → Int} {b : α → Bool} {tg : TX} {tt : Rho → M Bool} {ek ev : EX} {ρ : Rho} : ∀ (l : List α) (t : Tn), (∀ a ∈ l, ∃ ρ1, tg (f a) ρ = some ρ1 ∧ tt ρ1 = ret (b a) ∧ (b a = true → rdv ek ρ1 = ret (prD (kf a)) ∧ fzv ev ρ1 = ret (.int (vf a)))) →
    (t.map (·.1) ++ (l.filter b).map kf).Nodup → t.length + l.length ≤ lim → wGo tg (kd tt ek ev) ρ (l.map f) (.dt (tnD t)) = ret (.dt (tnD (t ++ (l.filter b).map fun a => (kf a, vf a))))
  | [], t, _, _, _ => by simp [wGo]
  | x :: xs, t, h, nd, hl => by
    obtain ⟨ρ1, h1, h2, h3⟩ := h x List.mem_cons_self
    rw [List.length_cons] at hl
    rw [List.map_cons]
    unfold wGo
    rw [h1]
    show bnd (kd tt ek ev ρ1 (.dt (tnD t))) _ = _
    unfold kd
    rw [h2]
    show bnd (if b x = true then _ else _) _ = _
    by_cases c : b x = true
    · rw [List.filter_cons, if_pos c] at nd ⊢
      have hn : lk t (kf x) = none := by
        rw [lk_none]
        rw [List.map_cons] at nd
        intro hm
        exact (List.nodup_append.mp nd).2.2 _ hm _ List.mem_cons_self rfl
      rw [if_pos c, (h3 c).1]
      show bnd (bnd (fzv ev ρ1) _) _ = _
      rw [(h3 c).2]
      show bnd (opt (putO (.dt (tnD t)) (prD (kf x)) (.int (vf x)))) _ = _
      rw [putO_tn hn (by omega)]
      show wGo tg (kd tt ek ev) ρ (xs.map f) (.dt (tnD (t ++ [(kf x, vf x)]))) = _
      rw [wGo_kd xs (t ++ [(kf x, vf x)]) (fun y hy => h y (List.mem_cons_of_mem _ hy)) (by simpa using nd) (by rw [List.length_append, List.length_singleton]; omega)]
      simp
    · rw [List.filter_cons, if_neg c] at nd ⊢
      rw [if_neg c]
      show wGo tg (kd tt ek ev) ρ (xs.map f) (.dt (tnD t)) = _
      rw [wGo_kd xs t (fun y hy => h y (List.mem_cons_of_mem _ hy)) nd (by omega)]

/-! ### evaluation, step by step -/
section
variable {n m : Nat} {b : SX} {as : List Ag} {r : Re} {s t : SX} {e a c : EX} {ρ ρ' : Rho} {f : Fl} {rr : Rr} {l : GX} {gs : List Ag} {F : FX} {x y d : D} {m2 : D → D → M Rr} {m1 : D → M Rr} {g : Ag}
theorem fn_rt (h : as.length = n) (hb : b (as.map agS ++ List.replicate (m - n) .un) = ret (.rt r)) : fn n m b as = ret r := by
  unfold fn; rw [if_pos h, hb]; rfl
theorem fn_nx (h : as.length = n) (hb : b (as.map agS ++ List.replicate (m - n) .un) = ret (.nx ρ)) : fn n m b as = ret (.val .none) := by
  unfold fn; rw [if_pos h, hb]; rfl
theorem seq_nx (h : s ρ = ret (.nx ρ')) : sSeq s t ρ = t ρ' := by unfold sSeq; rw [h]; rfl
theorem seq_rt (h : s ρ = ret (.rt r)) : sSeq s t ρ = ret (.rt r) := by unfold sSeq; rw [h]; rfl
theorem drop_ev (h : e ρ = ret rr) : sDrop e ρ = ret (.nx ρ) := by unfold sDrop; rw [h]; rfl
theorem ret_ev (h : e ρ = ret rr) (h2 : rr.re ρ = some r) : sRet e ρ = ret (.rt r) := by
  unfold sRet; rw [h]; show bnd (opt (rr.re ρ)) _ = _; rw [h2]; rfl
theorem set_ev {i : Nat} {sl : Sl} (h : e ρ = ret rr) (h2 : rr.sl ρ = some sl) (h3 : i < ρ.length) : sSet i e ρ = ret (.nx (ρ.set i sl)) := by
  unfold sSet; rw [h]; show bnd (opt (rr.sl ρ)) _ = _; rw [h2]; show (if i < ρ.length then _ else _) = _; rw [if_pos h3]
theorem g_cons (h : e ρ = ret rr) (h2 : rr.arg ρ = some g) (hl : l ρ = ret gs) : gcons e l ρ = ret (g :: gs) := by
  unfold gcons; rw [h]; show bnd (opt (rr.arg ρ)) _ = _; rw [h2]; show bnd (l ρ) _ = _; rw [hl]; rfl
theorem cal_ev (h : l ρ = ret gs) (h2 : F gs = ret r) : calE F l ρ = ret r.rr := by
  unfold calE; rw [h]; show bnd (F gs) _ = _; rw [h2]; rfl
theorem rd_ev (h : e ρ = ret rr) (h2 : rr.look ρ = some d) : rdv e ρ = ret d := by
  unfold rdv; rw [h]; show opt (rr.look ρ) = _; rw [h2]; rfl
theorem fz_ev (h : e ρ = ret rr) (h2 : rr.fzn = some d) : fzv e ρ = ret d := by
  unfold fzv; rw [h]; show opt rr.fzn = _; rw [h2]; rfl
theorem u1_ev (h : rdv a ρ = ret x) (h2 : m1 x = ret rr) : u1 m1 a ρ = ret rr := by unfold u1; rw [h]; exact h2
theorem u2_ev (h : rdv a ρ = ret x) (h1 : rdv c ρ = ret y) (h2 : m2 x y = ret rr) : u2 m2 a c ρ = ret rr := by
  unfold u2; rw [h]; show bnd (rdv c ρ) _ = _; rw [h1]; exact h2
theorem vl_ev {o : D → Option D} (h : o x = some d) : vl o x = ret (.val d) := by unfold vl; rw [h]; rfl
theorem vl2_ev {o : D → D → Option D} (h : o x y = some d) : vl2 o x y = ret (.val d) := by unfold vl2; rw [h]; rfl
theorem nw_ev {o : D → Option D} (h : o x = some d) : nw o x = ret (.fr d) := by unfold nw; rw [h]; rfl
theorem tst_ev {bb : Bool} (h : rdv a ρ = ret (.bool bb)) : tst a ρ = ret bb := by unfold tst; rw [h]; rfl
theorem if_t {tc : Rho → M Bool} (h : tc ρ = ret true) : sIf tc s t ρ = s ρ := by unfold sIf; rw [h]; rfl
theorem if_f {tc : Rho → M Bool} (h : tc ρ = ret false) : sIf tc s t ρ = t ρ := by unfold sIf; rw [h]; rfl
theorem tup_ev {lx : LX} {ds : List D} (h : lx ρ = ret ds) (hl : ds.length ≤ lim) : tupE lx ρ = ret (.val (.tuple ds)) := by
  unfold tupE; rw [h]; show (if ds.length ≤ lim then _ else _) = _; rw [if_pos hl]
theorem get1_ev {o : Option D} (h : rdv a ρ = ret d) (h1 : isDk d = true) (h2 : rdv c ρ = ret x) (h3 : dget d x = some o) : getE1 a c ρ = ret (.val (o.getD .none)) := by
  unfold getE1; rw [h]; show (if isDk d = true then _ else _) = _; rw [if_pos h1, h2]; show bnd (opt (dget d x)) _ = _; rw [h3]; rfl
theorem get2_ev {o : Option D} (h : rdv a ρ = ret d) (h1 : isDk d = true) (h2 : rdv c ρ = ret x) (h4 : fzv e ρ = ret y) (h3 : dget d x = some o) : getE2 a c e ρ = ret (.val (o.getD y)) := by
  unfold getE2; rw [h]; show (if isDk d = true then _ else _) = _; rw [if_pos h1, h2]; show bnd (fzv e ρ) _ = _; rw [h4]; show bnd (opt (dget d x)) _ = _; rw [h3]; rfl
end
end PV

set_option Elab.async false
set_option linter.all false
set_option maxRecDepth 100000
/-! PvY: a piece's claim by the claims of its parts: rules for goals `m P`, one a construct. -/
namespace PV
open PySem
/-- m comes to a, whatever is asked of it -/
abbrev Ev {α : Type} (m : M α) (a : α) : Prop := ∀ P : α → Prop, P a → m P
def sq (t : SX) (P : Fl → Prop) : Fl → Prop
  | .nx ρ => t ρ P
  | .rt r => P (.rt r)
  | .bk ρ => P (.bk ρ)
  | .ct ρ => P (.ct ρ)
def fK (J : Rho → Prop) (P : Fl → Prop) : Fl → Prop
  | .nx ρ => J ρ
  | .ct ρ => J ρ
  | .bk ρ => P (.nx ρ)
  | .rt r => P (.rt r)
def rK (P : Re → Prop) : Fl → Prop
  | .rt r => P r
  | .nx _ => P (.val .none)
  | _ => False
def bK (K : Bool → Prop) : D → Prop
  | .bool b => K b
  | _ => False
def iK (K : Int → Prop) : D → Prop
  | .int b => K b
  | _ => False
def c2K (Z : Int → Int → Prop) : D → D → Prop
  | .int i, .int j => Z i j
  | _, _ => False
theorem mulD_r (i j : Int) (h : sml j = true) : mulD (.int i) (.int j) = some (.int (i * j)) := by
  show (if sml i = true ∨ sml j = true then some (D.int (i * j)) else none) = _
  rw [if_pos (.inr h)]
theorem mulD_l (i j : Int) (h : sml i = true) : mulD (.int i) (.int j) = some (.int (i * j)) := by
  show (if sml i = true ∨ sml j = true then some (D.int (i * j)) else none) = _
  rw [if_pos (.inl h)]
theorem modD_pos (i j : Int) (h : 0 < j) : modD (.int i) (.int j) = some (.int (i % j)) := by
  show (if 0 < j then some (D.int (i % j)) else none) = _
  rw [if_pos h]
theorem powD_c (i j : Int) (h : 0 ≤ j ∧ j ≤ 1000000 ∧ sml i = true) : powD (.int i) (.int j) = some (.int (i ^ j.toNat)) := by
  show (if 0 ≤ j ∧ j ≤ 1000000 ∧ sml i = true then some (D.int (i ^ j.toNat)) else none) = _
  rw [if_pos h]
theorem shp_bool (b : Bool) : shp (.bool b) = true := shp_bl b
theorem eqB_bool (a b : Bool) : eqB (.bool a) (.bool b) = (a == b) := by cases a <;> cases b <;> rfl
theorem eqD_bool (a b : Bool) : eqD (.bool a) (.bool b) = some (.bool (a == b)) := by unfold eqD; rw [if_pos ⟨shp_bl a, shp_bl b⟩, eqB_bool]
theorem neD_bool (a b : Bool) : neD (.bool a) (.bool b) = some (.bool (!(a == b))) := by unfold neD; rw [if_pos ⟨shp_bl a, shp_bl b⟩, eqB_bool]
theorem eqD_optI (x y : Option Int) : eqD ((x.map D.int).getD .none) ((y.map D.int).getD .none) = some (.bool (decide (x = y))) := by
  cases x with
  | none =>
    cases y with
    | none => unfold eqD; rw [if_pos ⟨shp_non, shp_non⟩]; rfl
    | some j => unfold eqD; rw [if_pos ⟨shp_non, shp_int j⟩]; rfl
  | some i =>
    cases y with
    | none => unfold eqD; rw [if_pos ⟨shp_int i, shp_non⟩]; rfl
    | some j => show eqD (.int i) (.int j) = _; rw [eqD_int]; simp
theorem neD_optI (x y : Option Int) : neD ((x.map D.int).getD .none) ((y.map D.int).getD .none) = some (.bool (!decide (x = y))) := by
  cases x with
  | none =>
    cases y with
    | none => unfold neD; rw [if_pos ⟨shp_non, shp_non⟩]; rfl
    | some j => unfold neD; rw [if_pos ⟨shp_non, shp_int j⟩]; rfl
  | some i =>
    cases y with
    | none => unfold neD; rw [if_pos ⟨shp_int i, shp_non⟩]; rfl
    | some j => show neD (.int i) (.int j) = _; rw [neD_int]; simp
theorem sumD_ints (l : List Int) : sumD (.list (l.map D.int)) = some (.int l.sum) := by
  have intL_map : ∀ l : List Int, intL (l.map D.int) = some l := fun l => by
    induction l with
    | nil => rfl
    | cons x l ih => show (intL (l.map D.int)).map (x :: ·) = _; rw [ih]; rfl
  show (intL (l.map D.int)).map (fun is => D.int is.sum) = _
  rw [intL_map]; rfl
theorem cut_to (xs : List D) (k : Nat) : cutD xs none (some (k : Int)) = xs.take k := by
  unfold cutD
  have h1 : HT.sIx xs.length xs.length (some (k : Int)) = min k xs.length := HT.sIx_nat xs.length xs.length k
  have h2 : HT.sIx xs.length 0 none = 0 := rfl
  rw [h1, h2]
  simp
theorem isEqD {a b : D} {r : Option D} (h : eqD a b = r) : eqD a b = r := h
theorem isNeD {a b : D} {r : Option D} (h : neD a b = r) : neD a b = r := h
theorem isInD {a b : D} {r : Option D} (h : inD a b = r) : inD a b = r := h
theorem isNinD {a b : D} {r : Option D} (h : ninD a b = r) : ninD a b = r := h
theorem isSort {a : D} {r : Option D} (h : sortE a = r) : sortE a = r := h
theorem isAll {a : D} {r : Option D} (h : allD a = r) : allD a = r := h
theorem isAny {a : D} {r : Option D} (h : anyD a = r) : anyD a = r := h
theorem isSum {a : D} {r : Option D} (h : sumD a = r) : sumD a = r := h
theorem isMax {a : D} {r : Option D} (h : maxD a = r) : maxD a = r := h
theorem isMin {a : D} {r : Option D} (h : minD a = r) : minD a = r := h
theorem isIndex {a b : D} {r : Option D} (h : indexD a b = r) : indexD a b = r := h
theorem isMod {a b : D} {r : Option D} (h : modD a b = r) : modD a b = r := h
theorem isPow {a b : D} {r : Option D} (h : powD a b = r) : powD a b = r := h
theorem dget_tn' (t : Tn) (p q : Int) : dget (.dt (tnD t)) (.tuple [.int p, .int q]) = some ((lk t (p, q)).map D.int) := dget_tn t (p, q)
theorem inD_tn' (t : Tn) (p q : Int) : inD (.tuple [.int p, .int q]) (.dt (tnD t)) = some (.bool (lk t (p, q)).isSome) := inD_tn t (p, q)
theorem ninD_tn' (t : Tn) (p q : Int) : ninD (.tuple [.int p, .int q]) (.dt (tnD t)) = some (.bool (!(lk t (p, q)).isSome)) := ninD_tn t (p, q)
theorem inD_prs1' (l : List Pr) (p q : Int) : inD (.tuple [.int p, .int q]) (.list (l.map prD)) = some (.bool (decide ((p, q) ∈ l))) := inD_prs1 l (p, q)
theorem inD_prs2' (l : List Pr) (p q : Int) : inD (.tuple [.int p, .int q]) (.tuple (l.map prD)) = some (.bool (decide ((p, q) ∈ l))) := inD_prs2 l (p, q)
theorem ninD_prs1' (l : List Pr) (p q : Int) : ninD (.tuple [.int p, .int q]) (.list (l.map prD)) = some (.bool (!decide ((p, q) ∈ l))) := ninD_prs1 l (p, q)
theorem ninD_prs2' (l : List Pr) (p q : Int) : ninD (.tuple [.int p, .int q]) (.tuple (l.map prD)) = some (.bool (!decide ((p, q) ∈ l))) := ninD_prs2 l (p, q)
theorem eqD_pr' (p q r s : Int) : eqD (.tuple [.int p, .int q]) (.tuple [.int r, .int s]) = some (.bool (decide ((p, q) = (r, s)))) := eqD_pr (p, q) (r, s)
theorem neD_pr' (p q r s : Int) : neD (.tuple [.int p, .int q]) (.tuple [.int r, .int s]) = some (.bool (!decide ((p, q) = (r, s)))) := neD_pr (p, q) (r, s)
section
variable {α : Type} {m : M α} {a : α} {P : α → Prop}
theorem v_of (h : m = ret a) (k : P a) : m P := h ▸ k
theorem v_ev (h : Ev m a) (k : P a) : m P := h P k
theorem v_ret (k : P a) : ret a P := k
theorem v_opt {o : Option α} (h : o = some a) (k : P a) : opt o P := by rw [h]; exact k
theorem v_bnd {β : Type} {f : β → M α} {n : M β} (h : n fun b => f b P) : bnd n f P := h
theorem v_ite {c : Bool} {A B : Prop} (h1 : c = true → A) (h2 : c = false → B) : if c = true then A else B := by
  cases c with
  | true => rw [if_pos rfl]; exact h1 rfl
  | false => rw [if_neg (by decide)]; exact h2 rfl
theorem v_ifF {c : Bool} {A B : Prop} (h : c = false) (k : B) : if c = true then A else B := by subst h; exact k
theorem v_ifT {c : Bool} {A B : Prop} (h : c = true) (k : A) : if c = true then A else B := by subst h; exact k
theorem v_iteT {A B : Prop} (h : A) : if true = true then A else B := h
theorem v_iteF {A B : Prop} (h : B) : if false = true then A else B := h
end
section
variable {s t : SX} {e a b c : EX} {tt tu : Rho → M Bool} {ρ ρ' : Rho} {P : Fl → Prop} {K : Rr → Prop} {i j : Nat}
theorem sq_eq : (fun f : Fl => (match f with | .nx ρ' => t ρ' | f => ret f : M Fl) P) = sq t P := by
  funext f
  cases f <;> rfl
theorem v_nil (k : P (.nx ρ)) : sNil ρ P := k
theorem v_seq (h : s ρ (sq t P)) : sSeq s t ρ P := by
  show s ρ (fun f => (match f with | .nx ρ' => t ρ' | f => ret f : M Fl) P)
  rw [sq_eq]; exact h
theorem v_sret (h : e ρ fun r => opt (r.re ρ) fun x => P (.rt x)) : sRet e ρ P := h
theorem v_sif (h : tt ρ fun c => if c = true then s ρ P else t ρ P) : sIf tt s t ρ P := by
  have : (fun c : Bool => (if c = true then s ρ else t ρ) P) = fun c => if c = true then s ρ P else t ρ P := by
    funext c; cases c <;> rfl
  show tt ρ (fun c : Bool => (if c = true then s ρ else t ρ) P)
  rw [this]; exact h
theorem v_sset (h : e ρ fun r => opt (r.sl ρ) fun s => i < ρ.length ∧ P (.nx (ρ.set i s))) : sSet i e ρ P := by
  have : (fun r : Rr => bnd (opt (r.sl ρ)) (fun s => if i < ρ.length then ret (.nx (ρ.set i s)) else fail) P) = fun r => opt (r.sl ρ) fun s => i < ρ.length ∧ P (.nx (ρ.set i s)) := by
    funext r
    have h2 : (fun s : Sl => (if i < ρ.length then ret (Fl.nx (ρ.set i s)) else fail : M Fl) P) = fun s => i < ρ.length ∧ P (.nx (ρ.set i s)) := by
      funext s
      by_cases c : i < ρ.length
      · rw [if_pos c]; exact propext ⟨fun z => ⟨c, z⟩, fun z => z.2⟩
      · rw [if_neg c]; exact propext ⟨fun z => z.elim, fun z => absurd z.1 c⟩
    show opt (r.sl ρ) (fun s : Sl => (if i < ρ.length then ret (Fl.nx (ρ.set i s)) else fail : M Fl) P) = _
    rw [h2]
  show e ρ (fun r : Rr => bnd (opt (r.sl ρ)) (fun s => if i < ρ.length then ret (.nx (ρ.set i s)) else fail) P)
  rw [this]; exact h
theorem v_asg {tg : TX} (h : fzv e ρ fun d => opt (tg d ρ) fun ρ' => P (.nx ρ')) : sAsg tg e ρ P := h
theorem v_drop (h : e ρ fun _ => P (.nx ρ)) : sDrop e ρ P := h
theorem v_break (k : P (.bk ρ)) : sBreak ρ P := k
theorem v_cont (k : P (.ct ρ)) : sCont ρ P := k
theorem v_fix {o : D} (h : ρ[i]? = some (.own o)) (k : P (.nx (ρ.set i (.fz o)))) : sFix i ρ P := by unfold sFix; rw [h]; exact k
theorem v_fixO {o : D} (h : ρ[i]? = some (.own o)) (k : P (.nx (ρ.set i (.fz o)))) : sFixM i ρ P := by unfold sFixM; rw [h]; exact k
theorem v_fixF {o : D} (h : ρ[i]? = some (.fz o)) (k : P (.nx ρ)) : sFixM i ρ P := by unfold sFixM; rw [h]; exact k
theorem v_fixR {o : D} (h : ρ[i]? = some (.rd o)) (k : P (.nx ρ)) : sFixM i ρ P := by unfold sFixM; rw [h]; exact k
theorem v_fixU (h : ρ[i]? = some .un) (k : P (.nx ρ)) : sFixM i ρ P := by unfold sFixM; rw [h]; exact k
theorem v_own1 {T : String} {f : D → D → Option D} {o : D} (h : gOwn i ρ = some o) (hT : tyD T o = true) (k : fzv e ρ fun y => opt (f o y) fun o' => P (.nx (ρ.set i (.own o')))) : sOwn1 T i e f ρ P := by
  unfold sOwn1; rw [h]
  show (if tyD T o = true then _ else _ : M Fl) P
  rw [if_pos hT]; exact k
theorem v_own2 {T : String} {f : D → D → Option D} {o : D} (h : gOwn i ρ = some o) (hT : tyD T o = true) (k : e ρ fun r => opt (newD r) fun y => opt (f o y) fun o' => P (.nx (ρ.set i (.own o')))) : sOwn2 T i e f ρ P := by
  unfold sOwn2; rw [h]
  show (if tyD T o = true then _ else _ : M Fl) P
  rw [if_pos hT]; exact k
theorem v_own0 {T : String} {f : D → Option (D × D)} {o : D} {q : D × D} (h : gOwn i ρ = some o) (hq : f o = some q) (hT : tyD T o = true) (hj : j < ρ.length) (k : P (.nx ((ρ.set i (.own q.1)).set j (.fz q.2)))) : sOwn0 T i j f ρ P := by
  unfold sOwn0; rw [h]
  show bnd (opt (f o)) _ P
  rw [hq]
  show (if tyD T o = true ∧ j < ρ.length then _ else _ : M Fl) P
  rw [if_pos ⟨hT, hj⟩]; exact k
theorem v_put {o : D} (h : gOwn i ρ = some o) (k : fzv b ρ fun d => rdv a ρ fun y => opt (putO o y d) fun o' => P (.nx (ρ.set i (.own o')))) : sPut i a b ρ P := by
  unfold sPut; rw [h]; exact k
theorem v_par (hl : i < ρ.length ∧ j < ρ.length) (h : a ρ fun r => opt r.nal fun x => b ρ fun r2 => opt r2.nal fun y => P (.nx ((ρ.set i x).set j y))) : sPar i j a b ρ P := by
  have : sPar i j a b ρ = bnd (a ρ) fun r => bnd (opt r.nal) fun x => bnd (b ρ) fun r2 => bnd (opt r2.nal) fun y => ret (.nx ((ρ.set i x).set j y)) := by
    unfold sPar
    simp only [if_pos hl]
  rw [this]; exact h
/-! ### expressions -/
theorem v_rd {K : D → Prop} (h : e ρ fun r => opt (r.look ρ) K) : rdv e ρ K := h
theorem v_fz {K : D → Prop} (h : e ρ fun r => opt r.fzn K) : fzv e ρ K := h
theorem v_cst {d : D} (k : K (.val d)) : cst d ρ K := k
theorem v_var_fz {d : D} (h : ρ[i]? = some (.fz d)) (k : K (.val d)) : var i ρ K := by unfold var; rw [h]; exact k
theorem v_var_own {d : D} (h : ρ[i]? = some (.own d)) (k : K (.al i)) : var i ρ K := by unfold var; rw [h]; exact k
theorem v_var_rd {d : D} (h : ρ[i]? = some (.rd d)) (hb : box d = false) (k : K (.val d)) : var i ρ K := by unfold var; rw [h]; show (if box d = true then _ else _ : M Rr) K; rw [hb]; exact k
theorem v_var_bx {d : D} (h : ρ[i]? = some (.rd d)) (hb : box d = true) (k : K (.al i)) : var i ρ K := by unfold var; rw [h]; show (if box d = true then _ else _ : M Rr) K; rw [hb]; exact k
theorem v_var_pot (h : ρ[i]? = some .pot) (k : K .pot) : var i ρ K := by unfold var; rw [h]; exact k
def IsV (s : Sl) (d : D) : Prop := (s = .rd d ∧ box d = false) ∨ s = .fz d
theorem v_var_V {s : Sl} {d : D} (h : ρ[i]? = some s) (hs : IsV s d) (k : K (.val d)) : var i ρ K := by
  rcases hs with ⟨e, hb⟩ | e
  · exact v_var_rd (e ▸ h) hb k
  · exact v_var_fz (e ▸ h) k
theorem v_fixV {s : Sl} {d : D} (h : ρ[i]? = some s) (hs : IsV s d) (k : P (.nx ρ)) : sFixM i ρ P := by
  rcases hs with ⟨e, hb⟩ | e
  · exact v_fixR (e ▸ h) k
  · exact v_fixF (e ▸ h) k
theorem v_u1 {m : D → M Rr} (h : rdv a ρ fun x => m x K) : u1 m a ρ K := h
theorem v_u2 {m : D → D → M Rr} (h : rdv a ρ fun x => rdv b ρ fun y => m x y K) : u2 m a b ρ K := h
theorem v_plusI {i j : Int} (k : K (.val (.int (i + j)))) : plusD (.int i) (.int j) K := k
theorem v_plusL {xs ys : List D} (h : xs.length + ys.length ≤ lim ∧ K (.fr (.list (xs ++ ys)))) : plusD (.list xs) (.list ys) K := by
  show (if xs.length + ys.length ≤ lim then _ else _ : M Rr) K
  rw [if_pos h.1]; exact h.2
theorem v_plusT {xs ys : List D} (h : xs.length + ys.length ≤ lim ∧ K (.val (.tuple (xs ++ ys)))) : plusD (.tuple xs) (.tuple ys) K := by
  show (if xs.length + ys.length ≤ lim then _ else _ : M Rr) K
  rw [if_pos h.1]; exact h.2
theorem v_calP {F : FX} (h : ∀ P : Rr → Prop, (∀ x y z : Int, 0 ≤ x → 0 ≤ y → y < 2147483648 → 0 ≤ z → P (.fr (.list [.int x, .int y, .int z]))) → a ρ P) (k : F [.pot] fun r => K r.rr) : calP F a ρ K := by
  refine h _ fun x y z hx hy hy2 hz => ?_
  show (if 0 ≤ x ∧ 0 ≤ y ∧ y < 2147483648 ∧ 0 ≤ z then bnd (F [.pot]) (fun r => ret r.rr) else fail : M Rr) K
  rw [if_pos ⟨hx, hy, hy2, hz⟩]; exact k
theorem v_vl {f : D → Option D} {x : D} (h : opt (f x) fun z => K (.val z)) : vl f x K := h
theorem v_vl2 {f : D → D → Option D} {x y : D} (h : opt (f x y) fun z => K (.val z)) : vl2 f x y K := h
theorem v_nw {f : D → Option D} {x : D} (h : opt (f x) fun z => K (.fr z)) : nw f x K := h
theorem v_nw2 {f : D → D → Option D} {x y : D} (h : opt (f x y) fun z => K (.fr z)) : nw2 f x y K := h
theorem v_tst {K : Bool → Prop} (h : rdv a ρ (bK K)) : tst a ρ K := by
  have : (fun x : D => (match x with | .bool b => ret b | _ => fail : M Bool) K) = bK K := by
    funext x; cases x <;> rfl
  show rdv a ρ (fun x : D => (match x with | .bool b => ret b | _ => fail : M Bool) K)
  rw [this]; exact h
theorem v_bK {K : Bool → Prop} {b : Bool} (k : K b) : bK K (.bool b) := k
theorem v_c2K {Z : Int → Int → Prop} {i j : Int} (k : Z i j) : c2K Z (.int i) (.int j) := k
theorem v_iK {K : Int → Prop} {b : Int} (k : K b) : iK K (.int b) := k
theorem bif_eq {α : Type} {m n : M α} {K : α → Prop} {c : Bool} : (if c = true then m else n : M α) K = if c = true then m K else n K := by cases c <;> rfl
theorem v_tand {K : Bool → Prop} (h : tt ρ fun x => if x = true then tu ρ K else K false) : tand tt tu ρ K := by
  show tt ρ (fun x => (if x = true then tu ρ else ret false : M Bool) K)
  simp only [bif_eq]; exact h
theorem v_tor {K : Bool → Prop} (h : tt ρ fun x => if x = true then K true else tu ρ K) : tor tt tu ρ K := by
  show tt ρ (fun x => (if x = true then ret true else tu ρ : M Bool) K)
  simp only [bif_eq]; exact h
theorem v_tnot {K : Bool → Prop} (h : tt ρ fun x => K (!x)) : tnot tt ρ K := h
theorem v_yes {K : Bool → Prop} (k : K true) : yes ρ K := k
theorem v_ife (h : tt ρ fun c => if c = true then a ρ K else b ρ K) : ife tt a b ρ K := by
  show tt ρ (fun x => (if x = true then a ρ else b ρ : M Rr) K)
  simp only [bif_eq]; exact h
theorem v_pand (h : rdv a ρ (bK fun c => if c = true then b ρ K else K (.val (.bool false)))) : pandE a b ρ K := by
  have : (fun x : D => (match x with | .bool c => if c = true then b ρ else ret (.val (.bool false)) | _ => fail : M Rr) K) = bK fun c => if c = true then b ρ K else K (.val (.bool false)) := by
    funext x
    cases x with
    | bool c => cases c <;> rfl
    | _ => rfl
  show rdv a ρ (fun x : D => (match x with | .bool c => if c = true then b ρ else ret (.val (.bool false)) | _ => fail : M Rr) K)
  rw [this]; exact h
theorem v_por (h : rdv a ρ (bK fun c => if c = true then K (.val (.bool true)) else b ρ K)) : porE a b ρ K := by
  have : (fun x : D => (match x with | .bool c => if c = true then ret (.val (.bool true)) else b ρ | _ => fail : M Rr) K) = bK fun c => if c = true then K (.val (.bool true)) else b ρ K := by
    funext x
    cases x with
    | bool c => cases c <;> rfl
    | _ => rfl
  show rdv a ρ (fun x : D => (match x with | .bool c => if c = true then ret (.val (.bool true)) else b ρ | _ => fail : M Rr) K)
  rw [this]; exact h
theorem v_pnot (h : rdv a ρ (bK fun c => K (.val (.bool !c)))) : pnotE a ρ K := by
  have : (fun x : D => vl (fun x => match x with | .bool c => some (.bool (!c)) | _ => none) x K) = bK fun c => K (.val (.bool !c)) := by
    funext x; cases x <;> rfl
  show rdv a ρ (fun x : D => vl (fun x => match x with | .bool c => some (.bool (!c)) | _ => none) x K)
  rw [this]; exact h
theorem v_chn {f g : Int → Int → Bool} (h : rdv a ρ fun x => rdv b ρ (c2K (fun i j => if f i j = true then rdv c ρ (iK fun k => K (.val (.bool (g j k)))) else K (.val (.bool false))) x)) : chn f g a b c ρ K := by
  have h3 : ∀ j, (fun z : D => (match z with | .int k => ret (.val (.bool (g j k))) | _ => fail : M Rr) K) = iK fun k => K (.val (.bool (g j k))) := fun j => by funext z; cases z <;> rfl
  have h4 : ∀ x, (fun y : D => (match x, y with
    | .int i, .int j => if f i j = true then bnd (rdv c ρ) fun z => match z with
      | .int k => ret (.val (.bool (g j k)))
      | _ => fail
      else ret (.val (.bool false))
    | _, _ => fail : M Rr) K) = c2K (fun i j => if f i j = true then rdv c ρ (iK fun k => K (.val (.bool (g j k)))) else K (.val (.bool false))) x := fun x => by
    funext y
    cases x with
    | int i =>
      cases y with
      | int j =>
        show (if f i j = true then bnd (rdv c ρ) _ else ret (.val (.bool false)) : M Rr) K = if f i j = true then rdv c ρ (iK fun k => K (.val (.bool (g j k)))) else K (.val (.bool false))
        rw [bif_eq, ← h3 j]; rfl
      | _ => rfl
    | _ => rfl
  exact Eq.mpr (congrArg (rdv a ρ) (funext fun x => congrArg (rdv b ρ) (h4 x))) h
theorem v_tup {l : LX} (h : l ρ fun ds => ds.length ≤ lim ∧ K (.val (.tuple ds))) : tupE l ρ K := by
  have : (fun ds : List D => (if ds.length ≤ lim then ret (.val (.tuple ds)) else fail : M Rr) K) = fun ds => ds.length ≤ lim ∧ K (.val (.tuple ds)) := by
    funext ds
    by_cases c : ds.length ≤ lim
    · rw [if_pos c]; exact propext ⟨fun z => ⟨c, z⟩, fun z => z.2⟩
    · rw [if_neg c]; exact propext ⟨fun z => z.elim, fun z => absurd z.1 c⟩
  show l ρ (fun ds : List D => (if ds.length ≤ lim then ret (.val (.tuple ds)) else fail : M Rr) K)
  rw [this]; exact h
theorem v_lst {l : LX} (h : l ρ fun ds => ds.length ≤ lim ∧ K (.fr (.list ds))) : lstE l ρ K := by
  have : (fun ds : List D => (if ds.length ≤ lim then ret (.fr (.list ds)) else fail : M Rr) K) = fun ds => ds.length ≤ lim ∧ K (.fr (.list ds)) := by
    funext ds
    by_cases c : ds.length ≤ lim
    · rw [if_pos c]; exact propext ⟨fun z => ⟨c, z⟩, fun z => z.2⟩
    · rw [if_neg c]; exact propext ⟨fun z => z.elim, fun z => absurd z.1 c⟩
  show l ρ (fun ds : List D => (if ds.length ≤ lim then ret (.fr (.list ds)) else fail : M Rr) K)
  rw [this]; exact h
theorem v_lnil {K : List D → Prop} (k : K []) : lnil ρ K := k
theorem v_lcons {l : LX} {K : List D → Prop} (h : fzv e ρ fun d => l ρ fun ds => K (d :: ds)) : lcons e l ρ K := h
theorem v_lstar {l : LX} {K : List D → Prop} (h : rdv e ρ fun d => opt (seqOf d) fun xs => l ρ fun ds => K (xs ++ ds)) : lstar e l ρ K := h
theorem v_gnil {K : List Ag → Prop} (k : K []) : gnil ρ K := k
theorem v_gcons {l : GX} {K : List Ag → Prop} (h : e ρ fun r => opt (r.arg ρ) fun d => l ρ fun ds => K (d :: ds)) : gcons e l ρ K := h
theorem v_cal {F : FX} {l : GX} (h : l ρ fun as => F as fun r => K r.rr) : calE F l ρ K := h
theorem v_newK (k : K (.fr (.dk []))) : newK ρ K := k
theorem v_newT (k : K (.fr (.dt []))) : newT ρ K := k
theorem v_get1 (h : rdv a ρ fun d => isDk d = true ∧ rdv b ρ fun x => opt (dget d x) fun r => K (.val (r.getD .none))) : getE1 a b ρ K := by
  have : (fun d : D => (if isDk d = true then bnd (rdv b ρ) fun x => bnd (opt (dget d x)) fun r => ret (.val (r.getD .none)) else fail : M Rr) K) = fun d => isDk d = true ∧ rdv b ρ fun x => opt (dget d x) fun r => K (.val (r.getD .none)) := by
    funext d
    by_cases c : isDk d = true
    · rw [if_pos c]; exact propext ⟨fun z => ⟨c, z⟩, fun z => z.2⟩
    · rw [if_neg c]; exact propext ⟨fun z => z.elim, fun z => absurd z.1 c⟩
  show rdv a ρ (fun d : D => (if isDk d = true then bnd (rdv b ρ) fun x => bnd (opt (dget d x)) fun r => ret (.val (r.getD .none)) else fail : M Rr) K)
  rw [this]; exact h
theorem v_get2 (h : rdv a ρ fun d => isDk d = true ∧ rdv b ρ fun x => fzv c ρ fun y => opt (dget d x) fun r => K (.val (r.getD y))) : getE2 a b c ρ K := by
  have : (fun d : D => (if isDk d = true then bnd (rdv b ρ) fun x => bnd (fzv c ρ) fun y => bnd (opt (dget d x)) fun r => ret (.val (r.getD y)) else fail : M Rr) K) = fun d => isDk d = true ∧ rdv b ρ fun x => fzv c ρ fun y => opt (dget d x) fun r => K (.val (r.getD y)) := by
    funext d
    by_cases c : isDk d = true
    · rw [if_pos c]; exact propext ⟨fun z => ⟨c, z⟩, fun z => z.2⟩
    · rw [if_neg c]; exact propext ⟨fun z => z.elim, fun z => absurd z.1 c⟩
  show rdv a ρ (fun d : D => (if isDk d = true then bnd (rdv b ρ) fun x => bnd (fzv c ρ) fun y => bnd (opt (dget d x)) fun r => ret (.val (r.getD y)) else fail : M Rr) K)
  rw [this]; exact h
theorem v_ind (h : rdv a ρ fun d => tyD "list" d = true ∧ rdv b ρ fun x => opt (indexD d x) fun r => K (.val r)) : indE a b ρ K := by
  have : (fun d : D => (if tyD "list" d = true then bnd (rdv b ρ) fun x => bnd (opt (indexD d x)) fun r => ret (.val r) else fail : M Rr) K) = fun d => tyD "list" d = true ∧ rdv b ρ fun x => opt (indexD d x) fun r => K (.val r) := by
    funext d
    by_cases c : tyD "list" d = true
    · rw [if_pos c]; exact propext ⟨fun z => ⟨c, z⟩, fun z => z.2⟩
    · rw [if_neg c]; exact propext ⟨fun z => z.elim, fun z => absurd z.1 c⟩
  show rdv a ρ (fun d : D => (if tyD "list" d = true then bnd (rdv b ρ) fun x => bnd (opt (indexD d x)) fun r => ret (.val r) else fail : M Rr) K)
  rw [this]; exact h
theorem v_sqnx (k : t ρ P) : sq t P (.nx ρ) := k
theorem v_sqrt {r : Re} (k : P (.rt r)) : sq t P (.rt r) := k
theorem v_sqbk (k : P (.bk ρ)) : sq t P (.bk ρ) := k
theorem v_sqct (k : P (.ct ρ)) : sq t P (.ct ρ) := k
theorem v_fKnx {J : Rho → Prop} (k : J ρ) : fK J P (.nx ρ) := k
theorem v_fKct {J : Rho → Prop} (k : J ρ) : fK J P (.ct ρ) := k
theorem v_fKbk {J : Rho → Prop} (k : P (.nx ρ)) : fK J P (.bk ρ) := k
theorem v_fKrt {J : Rho → Prop} {r : Re} (k : P (.rt r)) : fK J P (.rt r) := k
theorem v_rKrt {P : Re → Prop} {r : Re} (k : P r) : rK P (.rt r) := k
theorem v_rKnx {P : Re → Prop} (k : P (.val .none)) : rK P (.nx ρ) := k
def slK (l h : Option Int) (K : Rr → Prop) : D → Prop
  | .list xs => K (.fr (.list (cutD xs l h)))
  | .tuple xs => K (.val (.tuple (cutD xs l h)))
  | _ => False
theorem v_slL {l h : Option Int} {xs : List D} (k : K (.fr (.list (cutD xs l h)))) : slK l h K (.list xs) := k
theorem v_slT {l h : Option Int} {xs : List D} (k : K (.val (.tuple (cutD xs l h)))) : slK l h K (.tuple xs) := k
theorem v_sle {lo hi : OX} (k : rdv e ρ fun d => lo ρ fun l => hi ρ fun h => slK l h K d) : slE lo hi e ρ K := by
  have h4 : slE lo hi e ρ K = rdv e ρ fun d => lo ρ fun l => hi ρ fun h => slK l h K d := by
    unfold slE
    show rdv e ρ _ = rdv e ρ _
    refine congrArg (rdv e ρ) (funext fun d => ?_)
    show lo ρ _ = lo ρ _
    refine congrArg (lo ρ) (funext fun l => ?_)
    show hi ρ _ = hi ρ _
    refine congrArg (hi ρ) (funext fun h => ?_)
    cases d <;> rfl
  rw [h4]; exact k
theorem v_ono {K : Option Int → Prop} (k : K none) : oNo ρ K := k
theorem v_osome {K : Option Int → Prop} (k : rdv e ρ (iK fun i => K (some i))) : oSome e ρ K := by
  have : (fun d : D => (match d with | .int i => ret (some i) | _ => fail : M (Option Int)) K) = iK fun i => K (some i) := by funext d; cases d <;> rfl
  show rdv e ρ (fun d : D => (match d with | .int i => ret (some i) | _ => fail : M (Option Int)) K)
  rw [this]; exact k
/-! ### what is walked -/
theorem v_wseq {md : Bool} {K : List D → Prop} (h : e ρ fun r => opt (r.stb md ρ) fun x => opt (items x) K) : wSeq md e ρ K := h
theorem v_rng1 {K : List D → Prop} (h : rdv a ρ (iK fun j => okRng 0 j = true ∧ K (rng 0 j))) : wRng1 a ρ K := by
  have : (fun x : D => (match x with | .int j => if okRng 0 j = true then ret (rng 0 j) else fail | _ => fail : M (List D)) K) = iK fun j => okRng 0 j = true ∧ K (rng 0 j) := by
    funext x
    cases x with
    | int j =>
      show (if okRng 0 j = true then ret (rng 0 j) else fail : M (List D)) K = (okRng 0 j = true ∧ K (rng 0 j))
      by_cases c : okRng 0 j = true
      · rw [if_pos c]; exact propext ⟨fun z => ⟨c, z⟩, fun z => z.2⟩
      · rw [if_neg c]; exact propext ⟨fun z => z.elim, fun z => absurd z.1 c⟩
    | _ => rfl
  show rdv a ρ (fun x : D => (match x with | .int j => if okRng 0 j = true then ret (rng 0 j) else fail | _ => fail : M (List D)) K)
  rw [this]; exact h
theorem v_rng2 {K : List D → Prop} (h : rdv a ρ fun x => rdv b ρ (c2K (fun i j => okRng i j = true ∧ K (rng i j)) x)) : wRng2 a b ρ K := by
  have h4 : ∀ x, (fun y : D => (match x, y with | .int i, .int j => if okRng i j = true then ret (rng i j) else fail | _, _ => fail : M (List D)) K) = c2K (fun i j => okRng i j = true ∧ K (rng i j)) x := fun x => by
    funext y
    cases x with
    | int i =>
      cases y with
      | int j =>
        show (if okRng i j = true then ret (rng i j) else fail : M (List D)) K = (okRng i j = true ∧ K (rng i j))
        by_cases c : okRng i j = true
        · rw [if_pos c]; exact propext ⟨fun z => ⟨c, z⟩, fun z => z.2⟩
        · rw [if_neg c]; exact propext ⟨fun z => z.elim, fun z => absurd z.1 c⟩
      | _ => rfl
    | _ => rfl
  exact Eq.mpr (congrArg (rdv a ρ) (funext fun x => congrArg (rdv b ρ) (h4 x))) h
/-! ### loops -/
theorem v_for {w : WX} {tg : TX} {b' : SX} (h : w ρ fun xs => forGo tg b' xs ρ P) : sFor w tg b' ρ P := h
theorem fK_eq {b' : SX} {tg : TX} {xs : List D} : (fun f : Fl => (match f with | .nx ρ' => forGo tg b' xs ρ' | .ct ρ' => forGo tg b' xs ρ' | .bk ρ' => ret (.nx ρ') | .rt r => ret (.rt r) : M Fl) P) = fK (fun ρ' => forGo tg b' xs ρ' P) P := by
  funext f; cases f <;> rfl
end
/-- the loop's law: I of what was taken so far; a step keeps it, or ends the loop -/
theorem v_forGo {α : Type} {f : α → D} {l : List α} {tg : TX} {b : SX} {P : Fl → Prop} (I : List α → Rho → Prop) {ρ : Rho} (h0 : I [] ρ)
    (st : ∀ pre x post ρ, l = pre ++ x :: post → I pre ρ → ∃ ρ1, tg (f x) ρ = some ρ1 ∧ ∀ J : Rho → Prop, (∀ ρ', I (pre ++ [x]) ρ' → J ρ') → b ρ1 (fK J P)) (fin : ∀ ρ, I l ρ → P (.nx ρ)) : forGo tg b (l.map f) ρ P := by
  have key : ∀ (post pre : List α) (ρ : Rho), l = pre ++ post → I pre ρ → forGo tg b (post.map f) ρ P := by
    intro post
    induction post with
    | nil => intro pre ρ e hI; rw [List.append_nil] at e; subst e; exact fin ρ hI
    | cons x post ih =>
      intro pre ρ e hI
      obtain ⟨ρ1, h1, h2⟩ := st pre x post ρ e hI
      rw [List.map_cons]
      show bnd (opt (tg (f x) ρ)) _ P
      rw [h1]
      show b ρ1 _
      have := h2 (fun ρ' => forGo tg b (post.map f) ρ' P) fun ρ' h' => ih (pre ++ [x]) ρ' (by rw [e]; simp) h'
      rw [← fK_eq] at this
      exact this
  exact key l [] ρ rfl h0
theorem v_while {t : Rho → M Bool} {b : SX} {P : Fl → Prop} (I : Nat → Rho → Prop) {ρ : Rho} (k : Nat) (h0 : I k ρ)
    (st : ∀ k ρ, I k ρ → ∃ c, Ev (t ρ) c ∧ (c = false → P (.nx ρ)) ∧ (c = true → ∃ k', k = k' + 1 ∧ ∀ J : Rho → Prop, (∀ ρ', I k' ρ' → J ρ') → b ρ (fK J P))) : sWhile t b ρ P := by
  have key : ∀ (k : Nat) (ρ : Rho), I k ρ → whileGo t b (k + 1) ρ P := by
    intro k
    induction k with
    | zero =>
      intro ρ hI
      obtain ⟨c, h1, h2, h3⟩ := st 0 ρ hI
      unfold whileGo
      refine h1 _ ?_
      cases c with
      | true => obtain ⟨k', z, _⟩ := h3 rfl; omega
      | false => exact h2 rfl
    | succ k ih =>
      intro ρ hI
      obtain ⟨c, h1, h2, h3⟩ := st (k + 1) ρ hI
      unfold whileGo
      refine h1 _ ?_
      cases c with
      | true =>
        obtain ⟨k', z, h4⟩ := h3 rfl
        have ek : k' = k := by omega
        subst ek
        have := h4 (fun ρ' => whileGo t b (k' + 1) ρ' P) fun ρ' h' => ih ρ' h'
        have e : (fun f : Fl => (match f with | .nx ρ' => whileGo t b (k' + 1) ρ' | .ct ρ' => whileGo t b (k' + 1) ρ' | .bk ρ' => ret (.nx ρ') | .rt r => ret (.rt r) : M Fl) P) = fK (fun ρ' => whileGo t b (k' + 1) ρ' P) P := by
          funext f; cases f <;> rfl
        show b ρ (fun f : Fl => (match f with | .nx ρ' => whileGo t b (k' + 1) ρ' | .ct ρ' => whileGo t b (k' + 1) ρ' | .bk ρ' => ret (.nx ρ') | .rt r => ret (.rt r) : M Fl) P)
        rw [e]; exact this
      | false => exact h2 rfl
  exact ⟨k + 1, key k ρ h0⟩
theorem range_at {N : Nat} {pre post : List Nat} {x : Nat} (e : List.range N = pre ++ x :: post) : x = pre.length ∧ pre.length < N := by
  have h1 : (List.range N)[pre.length]? = some x := by rw [e]; simp
  have h2 : pre.length < N := by
    have := congrArg List.length e
    rw [List.length_range, List.length_append, List.length_cons] at this
    omega
  rw [List.getElem?_range h2] at h1
  exact ⟨(Option.some.inj h1).symm, h2⟩
theorem rng_range {lo hi : Int} {N : Nat} (h : (hi - lo).toNat = N) : rng lo hi = (List.range N).map fun i => D.int (lo + (i : Nat)) := by unfold rng; rw [h]
theorem ups_at {N : Nat} {pre post : List Int} {x : Int} (e : ups N = pre ++ x :: post) : x = pre.length ∧ pre.length < N := by
  have h1 : (ups N)[pre.length]? = some x := by rw [e]; simp
  have h2 : pre.length < N := by
    have := congrArg List.length e
    rw [ups_len, List.length_append, List.length_cons] at this
    omega
  unfold ups at h1
  rw [List.getElem?_map, List.getElem?_range h2] at h1
  exact ⟨(Option.some.inj h1).symm, h2⟩
theorem ixD_at {α : Type} {f : α → D} {l : List α} {i : Nat} {x : α} (h : l[i]? = some x) : ixD (.list (l.map f)) (.int (i : Nat)) = some (f x) ∧ ixD (.tuple (l.map f)) (.int (i : Nat)) = some (f x) := by
  have hl : i < l.length := (List.getElem?_eq_some_iff.mp h).1
  have : at_ (l.map f) (i : Nat) = some (f x) := by
    unfold at_ ixn
    rw [List.length_map, if_pos (by omega), if_pos (by omega)]
    simp [h]
  exact ⟨this, this⟩
theorem ixD_in {α : Type} {f : α → D} {l : List α} {i : Int} (h0 : 0 ≤ i) (h1 : i < l.length) : ∃ x ∈ l, ixD (.list (l.map f)) (.int i) = some (f x) ∧ ixD (.tuple (l.map f)) (.int i) = some (f x) := by
  have hl : i.toNat < l.length := by omega
  have h2 : l[i.toNat]? = some l[i.toNat] := List.getElem?_eq_getElem hl
  have h3 := ixD_at (f := f) h2
  have e : ((i.toNat : Nat) : Int) = i := by omega
  rw [e] at h3
  exact ⟨_, List.getElem_mem hl, h3⟩
theorem intL_map : ∀ l : List Int, intL (l.map D.int) = some l
  | [] => rfl
  | x :: l => by show (intL (l.map D.int)).map (x :: ·) = _; rw [intL_map l]; rfl
theorem maxI_ok : ∀ {l : List Int}, l ≠ [] → ∃ m ∈ l, (∀ x ∈ l, x ≤ m) ∧ maxI l = some m
  | [], h => absurd rfl h
  | a :: l, _ => by
    have key : ∀ (l : List Int) (a : Int), (l.foldl (fun a b => if b > a then b else a) a = a ∨ l.foldl (fun a b => if b > a then b else a) a ∈ l) ∧ a ≤ l.foldl (fun a b => if b > a then b else a) a ∧ ∀ x ∈ l, x ≤ l.foldl (fun a b => if b > a then b else a) a := by
      intro l
      induction l with
      | nil => exact fun a => ⟨.inl rfl, Int.le_refl _, fun x hx => by cases hx⟩
      | cons b l ih =>
        intro a
        rw [List.foldl_cons]
        obtain ⟨h1, h2, h3⟩ := ih (if b > a then b else a)
        by_cases c : b > a
        · rw [if_pos c] at h1 h2 h3 ⊢
          refine ⟨.inr ?_, by omega, fun x hx => ?_⟩
          · rcases h1 with e | e
            · rw [e]; exact List.mem_cons_self
            · exact List.mem_cons_of_mem _ e
          · rcases List.mem_cons.mp hx with e | e
            · subst e; exact h2
            · exact h3 x e
        · rw [if_neg c] at h1 h2 h3 ⊢
          refine ⟨?_, h2, fun x hx => ?_⟩
          · rcases h1 with e | e
            · exact .inl e
            · exact .inr (List.mem_cons_of_mem _ e)
          · rcases List.mem_cons.mp hx with e | e
            · subst e; omega
            · exact h3 x e
    obtain ⟨h1, h2, h3⟩ := key l a
    refine ⟨_, ?_, fun x hx => ?_, rfl⟩
    · rcases h1 with e | e
      · rw [e]; exact List.mem_cons_self
      · exact List.mem_cons_of_mem _ e
    · rcases List.mem_cons.mp hx with e | e
      · subst e; exact h2
      · exact h3 x e
theorem maxD_ints {l : List Int} (h : l ≠ []) : ∃ m ∈ l, (∀ x ∈ l, x ≤ m) ∧ maxD (.list (l.map D.int)) = some (.int m) := by
  obtain ⟨m, h1, h2, h3⟩ := maxI_ok h
  refine ⟨m, h1, h2, ?_⟩
  show ((intL (l.map D.int)).bind maxI).map D.int = _
  rw [intL_map, Option.bind_some, h3]; rfl
theorem indexD_ints {l : List Int} {x : Int} (h : x ∈ l) : ∃ i, l[i]? = some x ∧ indexD (.list (l.map D.int)) (.int x) = some (.int (i : Nat)) := by
  have : ∃ i, l[i]? = some x ∧ (l.map D.int).findIdx? (fun z => eqB z (.int x)) = some i := by
    induction l with
    | nil => cases h
    | cons a l ih =>
      rw [List.map_cons, List.findIdx?_cons, eqB_int]
      by_cases e : a = x
      · subst e; exact ⟨0, rfl, by simp⟩
      · obtain ⟨i, h1, h2⟩ := ih (by rcases List.mem_cons.mp h with z | z; exact absurd z.symm e; exact z)
        exact ⟨i + 1, h1, by rw [h2]; simp [e]⟩
  obtain ⟨i, h1, h2⟩ := this
  refine ⟨i, h1, ?_⟩
  show (if shp (.int x) = true ∧ shp (.list (l.map D.int)) = true then ((l.map D.int).findIdx? fun z => eqB z (.int x)).map fun i => D.int (i : Nat) else none) = _
  rw [if_pos ⟨shp_int x, shp_ints1 l⟩, h2]; rfl
/-! ### comprehensions -/
theorem wGo_Ev {α : Type} {f : α → D} {b : α → Bool} {g : α → D} {tg : TX} {t : Rho → M Bool} {e : EX} {ρ : Rho} : ∀ (l : List α) (acc : List D), (∀ a ∈ l, ∃ ρ1, tg (f a) ρ = some ρ1 ∧ Ev (t ρ1) (b a) ∧ (b a = true → Ev (fzv e ρ1) (g a))) → acc.length + l.length ≤ lim →
    Ev (wGo tg (k1 t e) ρ (l.map f) acc) (acc ++ (l.filter b).map g)
  | [], acc, _, _ => fun P k => by
    rw [List.filter_nil, List.map_nil, List.append_nil] at k
    exact k
  | x :: xs, acc, h, hl => fun P k => by
    obtain ⟨ρ1, h1, h2, h3⟩ := h x List.mem_cons_self
    rw [List.length_cons] at hl
    have ih := fun acc' h' => wGo_Ev xs acc' (fun y hy => h y (List.mem_cons_of_mem _ hy)) h'
    rw [List.map_cons]
    unfold wGo
    rw [h1]
    show bnd (t ρ1) _ _
    refine h2 _ ?_
    show ((if b x = true then bnd (fzv e ρ1) fun y => (if acc.length < lim then ret (acc ++ [y]) else fail) else ret acc : M (List D)) fun a => wGo tg (k1 t e) ρ (xs.map f) a P)
    by_cases c : b x = true
    · rw [if_pos c]
      refine h3 c _ ?_
      show ((if acc.length < lim then ret (acc ++ [g x]) else fail : M (List D)) fun a => wGo tg (k1 t e) ρ (xs.map f) a P)
      rw [if_pos (by omega)]
      refine ih (acc ++ [g x]) (by rw [List.length_append, List.length_singleton]; omega) P ?_
      rw [List.filter_cons, if_pos c, List.map_cons] at k
      simpa using k
    · rw [if_neg c]
      refine ih acc (by omega) P ?_
      rw [List.filter_cons, if_neg c] at k
      exact k
theorem lc_Ev {α : Type} {f : α → D} {l : List α} {b : α → Bool} {g : α → D} {w : WX} {tg : TX} {t : Rho → M Bool} {e : EX} {vs : List Nat} {ρ : Rho} (hw : Ev (w ρ) (l.map f))
    (h : ∀ a ∈ l, ∃ ρ1, tg (f a) (inb vs ρ) = some ρ1 ∧ Ev (t ρ1) (b a) ∧ (b a = true → Ev (fzv e ρ1) (g a))) (hl : l.length ≤ lim) : Ev (lcE w tg (k1 t e) vs ρ) (.fr (.list ((l.filter b).map g))) := fun P k => by
  unfold lcE
  show w ρ _
  refine hw _ ?_
  show wGo tg (k1 t e) (inb vs ρ) (l.map f) [] _
  exact wGo_Ev l [] h (by simpa using hl) _ k
theorem lc_EvY {α : Type} {f : α → D} {l : List α} {g : α → D} {w : WX} {tg : TX} {e : EX} {vs : List Nat} {ρ : Rho} (hw : Ev (w ρ) (l.map f))
    (h : ∀ a ∈ l, ∃ ρ1, tg (f a) (inb vs ρ) = some ρ1 ∧ Ev (fzv e ρ1) (g a)) (hl : l.length ≤ lim) : Ev (lcE w tg (k1 yes e) vs ρ) (.fr (.list (l.map g))) := fun P k => by
  have := lc_Ev (b := fun _ => true) (t := yes) hw (fun a ha => let ⟨ρ1, h1, h2⟩ := h a ha; ⟨ρ1, h1, fun P k => k, fun _ => h2⟩) hl P
  rw [List.filter_eq_self.mpr (fun _ _ => rfl)] at this
  exact this k
/-! ### defs, draws -/
inductive En : List Ag → Nat → Rho → Prop
  | nil : En [] 0 []
  | un {k : Nat} {ρ : Rho} : En [] k ρ → En [] (k + 1) (.un :: ρ)
  | consD {as : List Ag} {k : Nat} {ρ : Rho} {d : D} : En as k ρ → En (.d d :: as) k (.rd d :: ρ)
  | consP {as : List Ag} {k : Nat} {ρ : Rho} : En as k ρ → En (.pot :: as) k (.pot :: ρ)
theorem En.eq {as : List Ag} {k : Nat} {ρ : Rho} (h : En as k ρ) : as.map agS ++ List.replicate k .un = ρ := by
  induction h with
  | nil => rfl
  | un _ ih => rw [← ih]; rfl
  | consD _ ih => rw [← ih]; rfl
  | consP _ ih => rw [← ih]; rfl
theorem v_fn {n m : Nat} {b : SX} {as : List Ag} {ρ : Rho} {P : Re → Prop} (h : as.length = n) (hE : En as (m - n) ρ) (hb : b ρ (rK P)) : fn n m b as P := by
  unfold fn
  rw [if_pos h, hE.eq]
  have : (fun f : Fl => (match f with | .rt r => ret r | .nx _ => ret (.val .none) | _ => fail : M Re) P) = rK P := by funext f; cases f <;> rfl
  show b _ (fun f : Fl => (match f with | .rt r => ret r | .nx _ => ret (.val .none) | _ => fail : M Re) P)
  rw [this]; exact hb
theorem v_draw {n : Int} {P : Re → Prop} (h : 0 < n) (h2 : n.natAbs < 1073741824) (k : ∀ j : Int, 0 ≤ j → j < n → P (.val (.int j))) : drawF [.pot, .d (.int n)] P := by
  show (if 0 < n ∧ n.natAbs < 1073741824 then bnd (draw n) (fun k => ret (.val (.int k))) else fail : M Re) P
  rw [if_pos ⟨h, h2⟩]; exact k
end PV

set_option Elab.async false
set_option linter.all false
set_option maxRecDepth 100000
namespace HK
open PySem PV
def d_is_whole : FX := fn 1 1 (sRet (pandE (u1 (vl (isiO "int")) (var 0)) (pnotE (u1 (vl (isiO "bool")) (var 0)))))
def d_is_between : FX := fn 3 3 (sRet (pandE (calE d_is_whole (gcons (var 0) gnil)) (chn (fun i j => decide (i ≤ j)) (fun i j => decide (i ≤ j)) (var 1) (var 0) (var 2))))
def d_is_tuple_of : FX := fn 2 2 (sRet (pandE (u1 (vl (isiO "tuple")) (var 0)) (u2 (vl2 eqD) (u1 lenM (var 0)) (var 1))))
def d_is_ascending_c1 : EX := lcE (wZip true (var 0) (slE (oSome (cst (.int 1))) oNo (var 0))) (tgT (tgCons (tName 1) (tgCons (tName 2) tgNil))) (k1 yes (u2 (vl2 ltD) (var 1) (var 2))) [1, 2]
def d_is_ascending : FX := fn 1 3 (sRet (u1 (vl allD) d_is_ascending_c1))
def d_is_place_number : FX := fn 1 1 (sRet (calE d_is_between (gcons (var 0) (gcons (cst (.int 1)) (gcons (cst (.int 6)) gnil)))))
def d_place_count : FX := fn 1 1 (sRet (u2 (vl2 ixD) (var 0) (cst (.int 0))))
def d_ties_of : FX := fn 1 1 (sRet (u2 (vl2 ixD) (var 0) (cst (.int 1))))
def d_places_of : FX := fn 1 1 (sRet (u1 rgE1 (u2 (vl2 ixD) (var 0) (cst (.int 0)))))
def d_is_place_of : FX := fn 2 2 (sRet (calE d_is_between (gcons (var 1) (gcons (cst (.int 0)) (gcons (u2 (vl2 subD) (u2 (vl2 ixD) (var 0) (cst (.int 0))) (cst (.int 1))) gnil)))))
def d_is_tie_of_c1 : EX := lcE (wSeq true (var 1)) (tName 2) (k1 yes (calE d_is_between (gcons (var 2) (gcons (cst (.int 0)) (gcons (u2 (vl2 subD) (var 0) (cst (.int 1))) gnil))))) [2]
def d_is_tie_of : FX := fn 2 3 (sRet (pandE (calE d_is_tuple_of (gcons (var 1) (gcons (cst (.int 2)) gnil))) (pandE (u1 (vl allD) d_is_tie_of_c1) (u2 (vl2 ltD) (u2 (vl2 ixD) (var 1) (cst (.int 0))) (u2 (vl2 ixD) (var 1) (cst (.int 1)))))))
def d_are_ties_c1 : EX := lcE (wSeq true (var 1)) (tName 2) (k1 yes (calE d_is_tie_of (gcons (var 0) (gcons (var 2) gnil)))) [2]
def d_are_ties : FX := fn 2 3 (sRet (pandE (u1 (vl (isiO "tuple")) (var 1)) (pandE (u1 (vl allD) d_are_ties_c1) (calE d_is_ascending (gcons (var 1) gnil)))))
def d_neighbours_of_c1 : EX := lcE (wSeq true (calE d_ties_of (gcons (var 0) gnil))) (tgT (tgCons (tName 3) (tgCons (tName 4) tgNil))) (k1 (tst (u2 (vl2 inD) (var 1) (tupE (lcons (var 3) (lcons (var 4) lnil))))) (u2 (vl2 subD) (u2 plusD (var 3) (var 4)) (var 1))) [3, 4]
def d_neighbours_of : FX := fn 2 5 (sSeq (sSet 2 d_neighbours_of_c1) (sRet (u1 (nw sortE) (var 2))))
def d_part_with_c1 : EX := lcE (wSeq true (calE d_neighbours_of (gcons (var 0) (gcons (var 5) gnil)))) (tName 6) (k1 (tst (u2 (vl2 inD) (var 6) (var 1))) (var 6)) [6]
def d_part_with_b1 : SX := (sSeq (sOwn0 "list" 4 5 popD) (sIf (tst (u2 (vl2 ninD) (var 5) (var 3))) (sSeq (sPut 3 (var 5) (cst (.bool true))) (sOwn2 "list" 4 d_part_with_c1 extD)) sNil))
def d_part_with_l1 : SX := sWhile (tst (u2 (vl2 neD) (var 4) (lstE lnil))) d_part_with_b1
def d_part_with : FX := fn 3 7 (sSeq (sPar 3 4 newK (lstE (lcons (var 2) lnil))) (sSeq d_part_with_l1 (sRet (u1 (vl tupD) (u1 (nw sortE) (var 3))))))
def d_hangs_by : FX := fn 2 2 (sRet (u2 (vl2 eqD) (u1 lenM (calE d_part_with (gcons (var 0) (gcons (var 1) (gcons (u2 (vl2 ixD) (var 1) (cst (.int 0))) gnil))))) (u1 lenM (var 1))))
def d_is_webbed : FX := fn 1 1 (sSeq (sIf (tor (tnot (tst (calE d_is_tuple_of (gcons (var 0) (gcons (cst (.int 2)) gnil))))) (tor (tnot (tst (calE d_is_place_number (gcons (u2 (vl2 ixD) (var 0) (cst (.int 0))) gnil)))) (tnot (tst (calE d_are_ties (gcons (u2 (vl2 ixD) (var 0) (cst (.int 0))) (gcons (u2 (vl2 ixD) (var 0) (cst (.int 1))) gnil))))))) (sRet (cst (.bool false))) sNil) (sRet (calE d_hangs_by (gcons (var 0) (gcons (u1 (vl tupD) (calE d_places_of (gcons (var 0) gnil))) gnil)))))
def d_is_bare_by : FX := fn 1 1 (sRet (u2 (vl2 eqD) (u1 lenM (calE d_ties_of (gcons (var 0) gnil))) (u2 (vl2 subD) (calE d_place_count (gcons (var 0) gnil)) (cst (.int 1)))))
def d_goes_of : FX := fn 2 2 (sRet (u1 (nw sortE) (lstE (lcons (var 1) (lstar (calE d_neighbours_of (gcons (var 0) (gcons (var 1) gnil))) lnil)))))
def d_all_pairs_c1 : EX := lcE (wSeq true (calE d_places_of (gcons (var 0) gnil))) (tName 1) (k2 yes (wSeq false (calE d_places_of (gcons (var 0) gnil))) (tName 2) [2] (k1 yes (tupE (lcons (var 1) (lcons (var 2) lnil))))) [1, 2]
def d_all_pairs : FX := fn 1 3 (sRet d_all_pairs_c1)
def d_pairs_behind_c1 : EX := lcE (wSeq true (calE d_goes_of (gcons (var 0) (gcons (var 2) gnil)))) (tName 3) (k1 (tst (u2 (vl2 neD) (var 3) (var 1))) (tupE (lcons (var 1) (lcons (var 3) lnil)))) [3]
def d_pairs_behind : FX := fn 3 4 (sRet d_pairs_behind_c1)
def d_does_close_c1 : EX := lcE (wSeq true (calE d_pairs_behind (gcons (var 0) (gcons (var 2) (gcons (var 3) gnil))))) (tName 4) (k1 yes (u2 (vl2 inD) (var 4) (var 1))) [4]
def d_does_close : FX := fn 4 5 (sRet (porE (u2 (vl2 eqD) (var 2) (var 3)) (u1 (vl allD) d_does_close_c1)))
def d_closing_moves_c1 : EX := lcE (wSeq true (calE d_goes_of (gcons (var 0) (gcons (var 3) gnil)))) (tName 5) (k1 (tst (calE d_does_close (gcons (var 0) (gcons (var 1) (gcons (var 5) (gcons (var 4) gnil)))))) (var 5)) [5]
def d_closing_moves : FX := fn 3 6 (sSeq (sAsg (tgT (tgCons (tName 3) (tgCons (tName 4) tgNil))) (var 2)) (sRet d_closing_moves_c1))
def d_pairs_closed_c1 : EX := lcE (wSeq true (calE d_all_pairs (gcons (var 0) gnil))) (tName 2) (k1 (tand (tst (u2 (vl2 ninD) (var 2) (var 1))) (tst (u2 (vl2 neD) (calE d_closing_moves (gcons (var 0) (gcons (var 1) (gcons (var 2) gnil)))) (lstE lnil)))) (var 2)) [2]
def d_pairs_closed : FX := fn 2 3 (sRet d_pairs_closed_c1)
def d_turns_of_c1 : EX := dcE true (wSeq true (calE d_places_of (gcons (var 0) gnil))) (tName 5) (kd yes (tupE (lcons (var 5) (lcons (var 5) lnil))) (cst (.int 0))) [5]
def d_turns_of_c2 : EX := dcE true (wSeq true (var 4)) (tName 6) (kd yes (var 6) (var 2)) [6]
def d_turns_of_b1 : SX := (sSeq (sSet 4 (calE d_pairs_closed (gcons (var 0) (gcons (var 1) gnil)))) (sSeq (sIf (tst (u2 (vl2 eqD) (var 4) (lstE lnil))) (sRet (var 1)) sNil) (sOwn2 "dict" 1 d_turns_of_c2 updA)))
def d_turns_of_l1 : SX := sFor (wEnum false (calE d_all_pairs (gcons (var 0) gnil)) (cst (.int 1))) (tgT (tgCons (tName 2) (tgCons (tName 3) tgNil))) d_turns_of_b1
def d_turns_of : FX := fn 1 7 (sSeq (sSet 1 d_turns_of_c1) (sSeq d_turns_of_l1 (sRet (var 1))))
def d_free_of_c1 : EX := lcE (wSeq true (calE d_all_pairs (gcons (var 0) gnil))) (tName 2) (k1 (tst (u2 (vl2 ninD) (var 2) (var 1))) (var 2)) [2]
def d_free_of : FX := fn 1 3 (sSeq (sSet 1 (calE d_turns_of (gcons (var 0) gnil))) (sRet d_free_of_c1))
def d_first_move_by_c1 : EX := dcI true 2 (tgT (tgCons (tName 4) (tgCons (tName 5) tgNil))) (kd (tst (u2 (vl2 ltD) (var 5) (u2 (vl2 ixD) (var 2) (var 1)))) (var 4) (var 5)) [4, 5]
def d_first_move_by : FX := fn 2 6 (sSeq (sSet 2 (calE d_turns_of (gcons (var 0) gnil))) (sSeq (sIf (tst (u2 (vl2 eqD) (getE2 (var 2) (var 1) (cst (.int 0))) (cst (.int 0)))) (sRet (cst .none)) sNil) (sSeq (sSet 3 d_first_move_by_c1) (sRet (u2 (vl2 ixD) (calE d_closing_moves (gcons (var 0) (gcons (var 3) (gcons (var 1) gnil)))) (cst (.int 0)))))))
def d_check_web : FX := fn 1 1 (sIf (tnot (tst (calE d_is_webbed (gcons (var 0) gnil)))) sNever sNil)
def d_check_place : FX := fn 2 2 (sIf (tnot (tst (calE d_is_place_of (gcons (var 0) (gcons (var 1) gnil))))) sNever sNil)
def d_check_web_place : FX := fn 2 2 (sSeq (sDrop (calE d_check_web (gcons (var 0) gnil))) (sDrop (calE d_check_place (gcons (var 0) (gcons (var 1) gnil)))))
def d_check_two_places : FX := fn 3 3 (sSeq (sDrop (calE d_check_web_place (gcons (var 0) (gcons (var 1) gnil)))) (sDrop (calE d_check_place (gcons (var 0) (gcons (var 2) gnil)))))
def d_chase_turns : FX := fn 3 3 (sSeq (sDrop (calE d_check_two_places (gcons (var 0) (gcons (var 1) (gcons (var 2) gnil))))) (sRet (getE1 (calE d_turns_of (gcons (var 0) gnil)) (tupE (lcons (var 1) (lcons (var 2) lnil))))))
def d_can_chase : FX := fn 1 1 (sSeq (sDrop (calE d_check_web (gcons (var 0) gnil))) (sRet (u2 (vl2 eqD) (calE d_free_of (gcons (var 0) gnil)) (lstE lnil))))
def d_free_pairs : FX := fn 1 1 (sSeq (sDrop (calE d_check_web (gcons (var 0) gnil))) (sRet (u1 (vl tupD) (calE d_free_of (gcons (var 0) gnil)))))
def d_hunter_move : FX := fn 3 3 (sSeq (sDrop (calE d_check_two_places (gcons (var 0) (gcons (var 1) (gcons (var 2) gnil))))) (sRet (calE d_first_move_by (gcons (var 0) (gcons (tupE (lcons (var 1) (lcons (var 2) lnil))) gnil)))))
def d_beside_within_c1 : EX := lcE (wSeq true (calE d_goes_of (gcons (var 0) (gcons (var 2) gnil)))) (tName 3) (k1 (tst (u2 (vl2 inD) (var 3) (var 1))) (var 3)) [3]
def d_beside_within : FX := fn 3 4 (sRet d_beside_within_c1)
def d_can_fold_by_c1 : EX := lcE (wSeq true (calE d_beside_within (gcons (var 0) (gcons (var 1) (gcons (var 2) gnil))))) (tName 4) (k1 yes (u2 (vl2 inD) (var 4) (calE d_goes_of (gcons (var 0) (gcons (var 3) gnil))))) [4]
def d_can_fold_by : FX := fn 4 5 (sRet (pandE (u2 (vl2 neD) (var 2) (var 3)) (u1 (vl allD) d_can_fold_by_c1)))
def d_folds_by_c1 : EX := lcE (wSeq true (var 1)) (tName 2) (k2 yes (wSeq false (var 1)) (tName 3) [3] (k1 (tst (calE d_can_fold_by (gcons (var 0) (gcons (var 1) (gcons (var 2) (gcons (var 3) gnil)))))) (tupE (lcons (var 2) (lcons (var 3) lnil))))) [2, 3]
def d_folds_by : FX := fn 2 4 (sRet d_folds_by_c1)
def d_lot_without_c1 : EX := lcE (wSeq true (var 0)) (tName 2) (k1 (tst (u2 (vl2 neD) (var 2) (var 1))) (var 2)) [2]
def d_lot_without : FX := fn 2 3 (sRet (u1 (vl tupD) d_lot_without_c1))
def d_folded_of_b1 : SX := (sSeq (sSet 4 (calE d_folds_by (gcons (var 0) (gcons (var 3) gnil)))) (sIf (tst (u2 (vl2 neD) (var 4) (lstE lnil))) (sSeq (sOwn1 "list" 2 (u2 (vl2 ixD) (var 4) (cst (.int 0))) appD) (sSet 3 (calE d_lot_without (gcons (var 3) (gcons (u2 (vl2 ixD) (u2 (vl2 ixD) (var 4) (cst (.int 0))) (cst (.int 0))) gnil))))) sNil))
def d_folded_of_l1 : SX := sFor (wSeq false (calE d_places_of (gcons (var 0) gnil))) (tName 1) d_folded_of_b1
def d_folded_of : FX := fn 1 5 (sSeq (sPar 2 3 (lstE lnil) (u1 (vl tupD) (calE d_places_of (gcons (var 0) gnil)))) (sSeq d_folded_of_l1 (sSeq (sFixM 2) (sSeq (sFixM 3) (sRet (tupE (lcons (var 2) (lcons (var 3) lnil))))))))
def d_fold_row : FX := fn 1 1 (sSeq (sDrop (calE d_check_web (gcons (var 0) gnil))) (sRet (u1 (vl tupD) (u2 (vl2 ixD) (calE d_folded_of (gcons (var 0) gnil)) (cst (.int 0))))))
def d_neighbours : FX := fn 2 2 (sSeq (sDrop (calE d_check_web_place (gcons (var 0) (gcons (var 1) gnil)))) (sRet (u1 (vl tupD) (calE d_neighbours_of (gcons (var 0) (gcons (var 1) gnil))))))
def d_is_bare : FX := fn 1 1 (sSeq (sDrop (calE d_check_web (gcons (var 0) gnil))) (sRet (calE d_is_bare_by (gcons (var 0) gnil))))
def d__law_pot_b1 : SX := (sSet 3 (u2 (vl2 modD) (u1 (vl intD) (u2 plusD (u2 plusD (u2 (vl2 mulD) (var 3) (cst (.int 69621))) (u2 (vl2 modD) (u1 (vl intD) (var 4)) (cst (.int 2147483563)))) (cst (.int 23)))) (cst (.int 2147483563))))
def d__law_pot_l1 : SX := sFor (wSeq false (u2 plusD (slE oNo (oSome (cst (.int 7))) (var 0)) (lstE (lcons (var 2) lnil)))) (tName 4) d__law_pot_b1
def d__law_pot : FX := fn 2 5 (sSeq (sSet 2 (ife (tst (u2 (vl2 ltD) (var 1) (u1 lenM (var 0)))) (u1 (vl intD) (u2 (vl2 ixD) (var 0) (var 1))) (u2 plusD (u2 plusD (u2 (vl2 mulD) (cst (.int 7907)) (var 1)) (cst (.int 37))) (u2 (vl2 modD) (u1 (vl intD) (u1 (vl sumD) (slE oNo (oSome (cst (.int 3))) (var 0)))) (cst (.int 1000033)))))) (sSeq (sSet 3 (u2 plusD (cst (.int 1005903)) (u2 (vl2 mulD) (cst (.int 13147)) (var 1)))) (sSeq d__law_pot_l1 (sSeq (sFixM 3) (sRet (lstE (lcons (ife (tor (tst (u2 (vl2 ltD) (var 2) (cst (.int 0)))) (tst (u2 (vl2 geD) (var 2) (u2 (vl2 powD) (cst (.int 10)) (cst (.int 18)))))) (u2 (vl2 modD) (u1 (vl intD) (u1 (vl absD) (var 2))) (u2 (vl2 powD) (cst (.int 10)) (cst (.int 60)))) (cst (.int 0))) (lcons (var 3) (lcons (cst (.int 0)) lnil)))))))))
abbrev d__law_draw : FX := drawF
def d__law_pick : FX := fn 2 2 (sRet (u2 (vl2 ixD) (var 1) (calE d__law_draw (gcons (var 0) (gcons (u1 lenM (var 1)) gnil)))))
def d__law_web_b1 : SX := (sOwn1 "list" 2 (tupE (lcons (calE d__law_draw (gcons (var 0) (gcons (var 3) gnil))) (lcons (var 3) lnil))) appD)
def d__law_web_l1 : SX := sFor (wRng2 (cst (.int 1)) (var 1)) (tName 3) d__law_web_b1
def d__law_web_b2 : SX := (sSeq (sPar 6 7 (calE d__law_draw (gcons (var 0) (gcons (var 1) gnil))) (calE d__law_draw (gcons (var 0) (gcons (var 1) gnil)))) (sSeq (sSet 5 (tupE (lcons (u2 (vl2 min2D) (var 6) (var 7)) (lcons (u2 (vl2 max2D) (var 6) (var 7)) lnil)))) (sSet 2 (u2 plusD (var 2) (ife (tand (tst (u2 (vl2 neD) (var 6) (var 7))) (tst (u2 (vl2 ninD) (var 5) (var 2)))) (lstE (lcons (var 5) lnil)) (lstE lnil))))))
def d__law_web_l2 : SX := sFor (wRng1 (calE d__law_draw (gcons (var 0) (gcons (u2 plusD (var 1) (cst (.int 1))) gnil)))) (tName 4) d__law_web_b2
def d__law_web : FX := fn 2 8 (sSeq (sSet 2 (lstE lnil)) (sSeq d__law_web_l1 (sSeq d__law_web_l2 (sRet (tupE (lcons (var 1) (lcons (u1 (vl tupD) (u1 (nw sortE) (var 2))) lnil)))))))
def d__law_near_c1 : EX := lcE (wRng1 (u2 (vl2 ixD) (var 0) (cst (.int 0)))) (tName 2) (k1 (tst (u2 (vl2 inD) (tupE (lcons (u2 (vl2 min2D) (var 1) (var 2)) (lcons (u2 (vl2 max2D) (var 1) (var 2)) lnil))) (u2 (vl2 ixD) (var 0) (cst (.int 1))))) (var 2)) [2]
def d__law_near : FX := fn 2 3 (sRet d__law_near_c1)
def d__law_goes : FX := fn 2 2 (sRet (u2 plusD (lstE (lcons (var 1) lnil)) (calE d__law_near (gcons (var 0) (gcons (var 1) gnil)))))
def d__law_closes_c1 : EX := lcE (wSeq true (calE d__law_goes (gcons (var 0) (gcons (u2 (vl2 ixD) (var 1) (cst (.int 1))) gnil)))) (tName 6) (k1 yes (u2 (vl2 ltD) (getE2 (var 2) (tupE (lcons (var 5) (lcons (var 6) lnil))) (var 3)) (var 3))) [6]
def d__law_closes_b1 : SX := (sIf (tor (tst (u2 (vl2 eqD) (var 5) (u2 (vl2 ixD) (var 1) (cst (.int 1))))) (tst (u1 (vl allD) d__law_closes_c1))) (sOwn1 "list" 4 (var 5) appD) sNil)
def d__law_closes_l1 : SX := sFor (wSeq false (calE d__law_goes (gcons (var 0) (gcons (u2 (vl2 ixD) (var 1) (cst (.int 0))) gnil)))) (tName 5) d__law_closes_b1
def d__law_closes : FX := fn 4 7 (sSeq (sSet 4 (lstE lnil)) (sSeq d__law_closes_l1 (sRet (u1 (nw sortE) (var 4)))))
def d__law_turns_c1 : EX := lcE (wRng1 (u2 (vl2 ixD) (var 0) (cst (.int 0)))) (tName 7) (k1 yes (tupE (lcons (var 2) (lcons (var 7) lnil)))) [7]
def d__law_turns_b1 : SX := (sSet 1 (u2 plusD (var 1) d__law_turns_c1))
def d__law_turns_l1 : SX := sFor (wRng1 (u2 (vl2 ixD) (var 0) (cst (.int 0)))) (tName 2) d__law_turns_b1
def d__law_turns_c2 : EX := lcE (wSeq true (var 1)) (tName 6) (k1 (tst (u2 (vl2 eqD) (u2 (vl2 ixD) (var 6) (cst (.int 0))) (u2 (vl2 ixD) (var 6) (cst (.int 1))))) (tupE (lcons (var 6) (lcons (cst (.int 0)) lnil)))) [6]
def d__law_turns_c3 : EX := lcE (wSeq true (var 1)) (tName 6) (k1 (tand (tst (u2 (vl2 ninD) (var 6) (var 3))) (tst (u2 (vl2 neD) (calE d__law_closes (gcons (var 0) (gcons (var 6) (gcons (var 3) (gcons (var 4) gnil))))) (lstE lnil)))) (var 6)) [6]
def d__law_turns_c4 : EX := lcE (wSeq true (var 5)) (tName 6) (k1 yes (tupE (lcons (var 6) (lcons (var 4) lnil)))) [6]
def d__law_turns_b2 : SX := (sSeq (sSet 5 d__law_turns_c3) (sSeq (sOwn2 "dict" 3 d__law_turns_c4 updA) (sIf (tst (u2 (vl2 eqD) (var 5) (lstE lnil))) sBreak sNil)))
def d__law_turns_l2 : SX := sFor (wRng2 (cst (.int 1)) (u2 plusD (u1 lenM (var 1)) (cst (.int 1)))) (tName 4) d__law_turns_b2
def d__law_turns : FX := fn 1 8 (sSeq (sSet 1 (lstE lnil)) (sSeq d__law_turns_l1 (sSeq (sSet 3 (u1 (nw dictD) d__law_turns_c2)) (sSeq d__law_turns_l2 (sRet (var 3))))))
def d__law_hunted_c1 : EX := lcE (wSeq true (var 8)) (tName 10) (k1 yes (getE2 (var 4) (tupE (lcons (var 7) (lcons (var 10) lnil))) (cst (.int 99)))) [10]
def d__law_hunted_b1 : SX := (sSeq (sIf (tst (u2 (vl2 eqD) (var 2) (var 3))) (sRet (var 6)) sNil) (sSeq (sSet 7 (calE d_hunter_move (gcons (var 1) (gcons (var 2) (gcons (var 3) gnil))))) (sSeq (sIf (tor (tst (u2 (vl2 isD) (var 7) (cst .none))) (tand (tst (u2 (vl2 neD) (var 7) (var 2))) (tst (u2 (vl2 ninD) (var 7) (calE d_neighbours (gcons (var 1) (gcons (var 2) gnil))))))) (sRet (cst (.int 99))) sNil) (sSeq (sIf (tst (u2 (vl2 eqD) (var 7) (var 3))) (sRet (u2 plusD (var 6) (cst (.int 1)))) sNil) (sSeq (sSet 8 (u1 (nw sortE) (calE d__law_goes (gcons (var 1) (gcons (var 3) gnil))))) (sSeq (sSeq (sFixM 7) (sSet 9 d__law_hunted_c1)) (sSeq (sFixM 7) (sPar 2 3 (var 7) (ife (tst (var 5)) (u2 (vl2 ixD) (var 8) (indE (var 9) (u1 (vl maxD) (var 9)))) (calE d__law_pick (gcons (var 0) (gcons (var 8) gnil))))))))))))
def d__law_hunted_l1 : SX := sFor (wRng1 (cst (.int 20))) (tName 6) d__law_hunted_b1
def d__law_hunted : FX := fn 6 11 (sSeq d__law_hunted_l1 (sRet (cst (.int 99))))
def d__law_runs_c1 : EX := lcE (wSeq true (u2 plusD (lstE (lcons (var 3) lnil)) (u1 (nw listD) (calE d_neighbours (gcons (var 1) (gcons (var 3) gnil)))))) (tName 8) (k1 (tst (u2 (vl2 inD) (tupE (lcons (var 6) (lcons (var 8) lnil))) (var 4))) (var 8)) [8]
def d__law_runs_b1 : SX := (sSeq (sSet 6 (calE d__law_pick (gcons (var 0) (gcons (calE d__law_goes (gcons (var 1) (gcons (var 2) gnil))) gnil)))) (sSeq (sSeq (sFixM 3) (sSeq (sFixM 6) (sSet 7 d__law_runs_c1))) (sSeq (sIf (tor (tst (u2 (vl2 eqD) (var 6) (var 3))) (tor (tst (u2 (vl2 eqD) (var 7) (lstE lnil))) (tst (u2 (vl2 isnD) (calE d_chase_turns (gcons (var 1) (gcons (var 2) (gcons (var 3) gnil)))) (cst .none))))) (sRet (cst (.bool false))) sNil) (sSeq (sFixM 6) (sPar 2 3 (var 6) (calE d__law_pick (gcons (var 0) (gcons (var 7) gnil))))))))
def d__law_runs_l1 : SX := sFor (wRng1 (cst (.int 12))) (tName 5) d__law_runs_b1
def d__law_runs : FX := fn 4 9 (sSeq (sSet 4 (calE d_free_pairs (gcons (var 1) gnil))) (sSeq d__law_runs_l1 (sRet (cst (.bool true)))))
def d__law_web_right_b1 : SX := (sSeq (sPar 5 6 (calE d__law_draw (gcons (var 0) (gcons (u2 (vl2 ixD) (var 1) (cst (.int 0))) gnil))) (calE d__law_draw (gcons (var 0) (gcons (u2 (vl2 ixD) (var 1) (cst (.int 0))) gnil)))) (sSeq (sSet 4 (calE d_chase_turns (gcons (var 1) (gcons (var 5) (gcons (var 6) gnil))))) (sSeq (sIf (tst (u2 (vl2 neD) (var 4) (getE2 (var 2) (tupE (lcons (var 5) (lcons (var 6) lnil))) (cst .none)))) (sRet (cst (.bool false))) sNil) (sIf (tst (u2 (vl2 isD) (var 4) (cst .none))) (sIf (tnot (tst (calE d__law_runs (gcons (var 0) (gcons (var 1) (gcons (var 5) (gcons (var 6) gnil))))))) (sRet (cst (.bool false))) sNil) (sIf (tor (tst (u2 (vl2 neD) (calE d__law_hunted (gcons (var 0) (gcons (var 1) (gcons (var 5) (gcons (var 6) (gcons (var 2) (gcons (cst (.bool true)) gnil))))))) (var 4))) (tst (u2 (vl2 gtD) (calE d__law_hunted (gcons (var 0) (gcons (var 1) (gcons (var 5) (gcons (var 6) (gcons (var 2) (gcons (cst (.bool false)) gnil))))))) (var 4)))) (sRet (cst (.bool false))) sNil)))))
def d__law_web_right_l1 : SX := sFor (wSeq false (tupE (lcons (cst (.int 0)) (lcons (cst (.int 1)) (lcons (cst (.int 2)) lnil))))) (tName 3) d__law_web_right_b1
def d__law_web_right : FX := fn 1 7 (sSeq (sSet 1 (calE d__law_web (gcons (var 0) (gcons (u2 plusD (cst (.int 3)) (calE d__law_draw (gcons (var 0) (gcons (cst (.int 3)) gnil)))) gnil)))) (sSeq (sSet 2 (calE d__law_turns (gcons (var 1) gnil))) (sSeq d__law_web_right_l1 (sSeq (sIf (tand (tst (calE d_is_bare (gcons (var 1) gnil))) (tnot (tst (calE d_can_chase (gcons (var 1) gnil))))) (sRet (cst (.bool false))) sNil) (sRet (u2 (vl2 eqD) (u2 (vl2 eqD) (u1 lenM (calE d_fold_row (gcons (var 1) gnil))) (u2 (vl2 subD) (u2 (vl2 ixD) (var 1) (cst (.int 0))) (cst (.int 1)))) (u2 (vl2 eqD) (calE d_free_pairs (gcons (var 1) gnil)) (tupE lnil))))))))
def d__law_right_c1 : EX := lcE (wRng1 (cst (.int 5))) (tName 1) (k1 yes (calE d__law_web_right (gcons (var 0) gnil))) [1]
def d__law_right : FX := fn 1 2 (sRet (u1 (vl allD) d__law_right_c1))
def d_law_c1 : EX := lcE (wSeq true (tupE (lcons (cst (.int 0)) (lcons (cst (.int 1)) lnil)))) (tName 1) (k1 yes (calP d__law_right (calE d__law_pot (gcons (var 0) (gcons (var 1) gnil))))) [1]
def d_law : FX := fn 1 2 (sRet (u1 (vl allD) d_law_c1))
end HK

set_option Elab.async false
set_option linter.all false
set_option maxRecDepth 100000
/-! M52: the plain law of k52. -/
namespace HK
open PySem PV
def wD (n : Nat) (es : List Pr) : D := .tuple [.int n, .tuple (es.map prD)]
structure OkW (n : Nat) (es : List Pr) : Prop where
  n3 : 3 ≤ n
  n5 : n ≤ 5
  rg : ∀ e ∈ es, 0 ≤ e.1 ∧ e.1 < e.2 ∧ e.2 < n
  asc : es.Pairwise fun a b => a.1 < b.1 ∨ (a.1 = b.1 ∧ a.2 < b.2)
  len : es.length ≤ 100
  con : ∀ v : Int, 1 ≤ v → v < n → ∃ u, 0 ≤ u ∧ u < v ∧ (u, v) ∈ es
abbrev ag (d : D) : Ag := .d d
theorem limB {k : Nat} (h : k ≤ 1000) : k ≤ lim := by unfold lim; omega
theorem e_place_count (n : Nat) (es : List Pr) : d_place_count [ag (wD n es)] = ret (.val (.int n)) := rfl
theorem e_ties_of (n : Nat) (es : List Pr) : d_ties_of [ag (wD n es)] = ret (.val (.tuple (es.map prD))) := rfl
theorem e_is_whole (i : Int) : d_is_whole [ag (.int i)] = ret (.val (.bool true)) := rfl
theorem e_is_between (v lo hi : Int) : d_is_between [ag (.int v), ag (.int lo), ag (.int hi)] = ret (.val (.bool (decide (lo ≤ v) && decide (v ≤ hi)))) := by
  by_cases h : lo ≤ v <;> simp [d_is_between, fn, sRet, sSeq, sSet, sIf, sNil, sDrop, u1, u2, rdv, fzv, var, cst, vl, vl2, nw, tst, tand, tor, tnot, pandE, porE, pnotE, calE, gcons, gnil, lcons, lnil, lstar, tupE, lstE, Rr.arg, Rr.look, Rr.fzn, Rr.re, Rr.sl, Re.rr, Sl.data, agS, box, ixD, at_, ixn, i2, addD, subD, plusD, isD, isnD, isNon, opt_some, bnd_ret, seqOf, wSeq, stv, Rr.stb, items, ife, inb, uns, Sl.inn, tName, tgT, tgCons, tgNil, e_is_whole, chn, h]
theorem e_bt {v lo hi : Int} (h1 : lo ≤ v) (h2 : v ≤ hi) : d_is_between [ag (.int v), ag (.int lo), ag (.int hi)] = ret (.val (.bool true)) := by
  rw [e_is_between, decide_eq_true h1, decide_eq_true h2]; rfl
theorem e_is_tuple_of {xs : List D} {k : Int} (h : (xs.length : Int) = k) : d_is_tuple_of [ag (.tuple xs), ag (.int k)] = ret (.val (.bool true)) := by
  have h1 : isiO "tuple" (.tuple xs) = some (.bool true) := by rfl
  simp [d_is_tuple_of, fn, sRet, sSeq, sSet, sIf, sNil, sDrop, u1, u2, rdv, fzv, var, cst, vl, vl2, nw, tst, tand, tor, tnot, pandE, porE, pnotE, calE, gcons, gnil, lcons, lnil, lstar, tupE, lstE, Rr.arg, Rr.look, Rr.fzn, Rr.re, Rr.sl, Re.rr, Sl.data, agS, box, ixD, at_, ixn, i2, addD, subD, plusD, isD, isnD, isNon, opt_some, bnd_ret, seqOf, wSeq, stv, Rr.stb, items, ife, inb, uns, Sl.inn, tName, tgT, tgCons, tgNil, h1, h]
section
variable {n : Nat} {es : List Pr} (o : OkW n es)
include o
theorem e_is_place_number : d_is_place_number [ag (.int n)] = ret (.val (.bool true)) := by
  have h1 := o.n3
  have h2 := o.n5
  have h := e_bt (v := n) (lo := 1) (hi := 6) (by omega) (by omega)
  simp [d_is_place_number, fn, sRet, sSeq, sSet, sIf, sNil, sDrop, u1, u2, rdv, fzv, var, cst, vl, vl2, nw, tst, tand, tor, tnot, pandE, porE, pnotE, calE, gcons, gnil, lcons, lnil, lstar, tupE, lstE, Rr.arg, Rr.look, Rr.fzn, Rr.re, Rr.sl, Re.rr, Sl.data, agS, box, ixD, at_, ixn, i2, addD, subD, plusD, isD, isnD, isNon, opt_some, bnd_ret, seqOf, wSeq, stv, Rr.stb, items, ife, inb, uns, Sl.inn, tName, tgT, tgCons, tgNil, h]
theorem e_places_of : d_places_of [ag (wD n es)] = ret (.fr (.list ((ups n).map D.int))) := by
  have h2 := o.n5
  have h := okRng0 (n := n) (by omega)
  simp [d_places_of, fn, sRet, sSeq, sSet, sIf, sNil, sDrop, u1, u2, rdv, fzv, var, cst, vl, vl2, nw, tst, tand, tor, tnot, pandE, porE, pnotE, calE, gcons, gnil, lcons, lnil, lstar, tupE, lstE, Rr.arg, Rr.look, Rr.fzn, Rr.re, Rr.sl, Re.rr, Sl.data, agS, box, ixD, at_, ixn, i2, addD, subD, plusD, isD, isnD, isNon, opt_some, bnd_ret, seqOf, wSeq, stv, Rr.stb, items, ife, inb, uns, Sl.inn, tName, tgT, tgCons, tgNil, wD, rgE1, h, rng_ups]
theorem e_is_place_of {p : Int} (h0 : 0 ≤ p) (h1 : p < n) : d_is_place_of [ag (wD n es), ag (.int p)] = ret (.val (.bool true)) := by
  have h := e_bt (v := p) (lo := 0) (hi := n - 1) (by omega) (by omega)
  simp [d_is_place_of, fn, sRet, sSeq, sSet, sIf, sNil, sDrop, u1, u2, rdv, fzv, var, cst, vl, vl2, nw, tst, tand, tor, tnot, pandE, porE, pnotE, calE, gcons, gnil, lcons, lnil, lstar, tupE, lstE, Rr.arg, Rr.look, Rr.fzn, Rr.re, Rr.sl, Re.rr, Sl.data, agS, box, ixD, at_, ixn, i2, addD, subD, plusD, isD, isnD, isNon, opt_some, bnd_ret, seqOf, wSeq, stv, Rr.stb, items, ife, inb, uns, Sl.inn, tName, tgT, tgCons, tgNil, wD, h]
theorem e_is_tie_of {e : Pr} (h : 0 ≤ e.1 ∧ e.1 < e.2 ∧ e.2 < n) : d_is_tie_of [ag (.int n), ag (prD e)] = ret (.val (.bool true)) := by
  have h1 := e_is_tuple_of (xs := [.int e.1, .int e.2]) (k := 2) rfl
  have h2 : d_is_tie_of_c1 [.rd (.int n), .rd (prD e), .un] = ret (.fr (.list ([e.1, e.2].map fun _ => D.bool true))) := by
    refine lc_mapY (f := D.int) rfl (fun a ha => ⟨[.rd (.int n), .rd (prD e), .fz (.int a)], rfl, ?_⟩) (limB (by simp))
    have hb : 0 ≤ a ∧ a ≤ n - 1 := by
      simp only [List.mem_cons, List.not_mem_nil, or_false] at ha
      omega
    have := e_bt hb.1 hb.2
    simp [fn, sRet, sSeq, sSet, sIf, sNil, sDrop, u1, u2, rdv, fzv, var, cst, vl, vl2, nw, tst, tand, tor, tnot, pandE, porE, pnotE, calE, gcons, gnil, lcons, lnil, lstar, tupE, lstE, Rr.arg, Rr.look, Rr.fzn, Rr.re, Rr.sl, Re.rr, Sl.data, agS, box, ixD, at_, ixn, i2, addD, subD, plusD, isD, isnD, isNon, opt_some, bnd_ret, seqOf, wSeq, stv, Rr.stb, items, ife, inb, uns, Sl.inn, tName, tgT, tgCons, tgNil, this]
  have h3 := all_map (fun _ : Int => true) [e.1, e.2]
  have h4 : ltD (.int e.1) (.int e.2) = some (.bool true) := by rw [ltD_int, decide_eq_true h.2.1]
  unfold prD at h2 ⊢
  simp [d_is_tie_of, fn, sRet, sSeq, sSet, sIf, sNil, sDrop, u1, u2, rdv, fzv, var, cst, vl, vl2, nw, tst, tand, tor, tnot, pandE, porE, pnotE, calE, gcons, gnil, lcons, lnil, lstar, tupE, lstE, Rr.arg, Rr.look, Rr.fzn, Rr.re, Rr.sl, Re.rr, Sl.data, agS, box, ixD, at_, ixn, i2, addD, subD, plusD, isD, isnD, isNon, opt_some, bnd_ret, seqOf, wSeq, stv, Rr.stb, items, ife, inb, uns, Sl.inn, tName, tgT, tgCons, tgNil, h1, h2, ltD_int, h.2.1, allD, boolL]
theorem e_is_ascending : d_is_ascending [ag (.tuple (es.map prD))] = ret (.val (.bool true)) := by
  have hw : wZip true (var 0) (slE (oSome (cst (.int 1))) oNo (var 0)) [.rd (.tuple (es.map prD)), .un, .un] = ret ((es.zip (es.drop 1)).map fun p => D.tuple [prD p.1, prD p.2]) := by
    show ret (zipD (es.map prD) (cutD (es.map prD) (some 1) none)) = _
    rw [cut1, ← List.map_drop, zipD_map]
  have h2 : d_is_ascending_c1 [.rd (.tuple (es.map prD)), .un, .un] = ret (.fr (.list ((es.zip (es.drop 1)).map fun _ => D.bool true))) := by
    refine lc_mapY hw (fun a ha => ⟨[.rd (.tuple (es.map prD)), .fz (prD a.1), .fz (prD a.2)], rfl, ?_⟩) ?_
    · have := zip_next o.asc a ha
      have h : prLt a.1 a.2 = true := decide_eq_true this
      simp [fn, sRet, sSeq, sSet, sIf, sNil, sDrop, u1, u2, rdv, fzv, var, cst, vl, vl2, nw, tst, tand, tor, tnot, pandE, porE, pnotE, calE, gcons, gnil, lcons, lnil, lstar, tupE, lstE, Rr.arg, Rr.look, Rr.fzn, Rr.re, Rr.sl, Re.rr, Sl.data, agS, box, ixD, at_, ixn, i2, addD, subD, plusD, isD, isnD, isNon, opt_some, bnd_ret, seqOf, wSeq, stv, Rr.stb, items, ife, inb, uns, Sl.inn, tName, tgT, tgCons, tgNil, h]
    · have := o.len
      rw [List.length_zip]
      exact limB (by omega)
  have h3 := all_map (fun _ : Pr × Pr => true) (es.zip es.tail)
  rw [List.all_eq_true.mpr (fun _ _ => rfl)] at h3
  simp [d_is_ascending, fn, sRet, sSeq, sSet, sIf, sNil, sDrop, u1, u2, rdv, fzv, var, cst, vl, vl2, nw, tst, tand, tor, tnot, pandE, porE, pnotE, calE, gcons, gnil, lcons, lnil, lstar, tupE, lstE, Rr.arg, Rr.look, Rr.fzn, Rr.re, Rr.sl, Re.rr, Sl.data, agS, box, ixD, at_, ixn, i2, addD, subD, plusD, isD, isnD, isNon, opt_some, bnd_ret, seqOf, wSeq, stv, Rr.stb, items, ife, inb, uns, Sl.inn, tName, tgT, tgCons, tgNil, h2, h3]
theorem e_are_ties : d_are_ties [ag (.int n), ag (.tuple (es.map prD))] = ret (.val (.bool true)) := by
  have h1 : isiO "tuple" (.tuple (es.map prD)) = some (.bool true) := by rfl
  have h2 : d_are_ties_c1 [.rd (.int n), .rd (.tuple (es.map prD)), .un] = ret (.fr (.list (es.map fun _ => D.bool true))) := by
    refine lc_mapY (f := prD) rfl (fun a ha => ⟨[.rd (.int n), .rd (.tuple (es.map prD)), .fz (prD a)], rfl, ?_⟩) (limB (by have := o.len; omega))
    have := e_is_tie_of o (o.rg a ha)
    simp [fn, sRet, sSeq, sSet, sIf, sNil, sDrop, u1, u2, rdv, fzv, var, cst, vl, vl2, nw, tst, tand, tor, tnot, pandE, porE, pnotE, calE, gcons, gnil, lcons, lnil, lstar, tupE, lstE, Rr.arg, Rr.look, Rr.fzn, Rr.re, Rr.sl, Re.rr, Sl.data, agS, box, ixD, at_, ixn, i2, addD, subD, plusD, isD, isnD, isNon, opt_some, bnd_ret, seqOf, wSeq, stv, Rr.stb, items, ife, inb, uns, Sl.inn, tName, tgT, tgCons, tgNil, this]
  have h3 := all_map (fun _ : Pr => true) es
  rw [List.all_eq_true.mpr (fun _ _ => rfl)] at h3
  have h4 := e_is_ascending o
  simp [d_are_ties, fn, sRet, sSeq, sSet, sIf, sNil, sDrop, u1, u2, rdv, fzv, var, cst, vl, vl2, nw, tst, tand, tor, tnot, pandE, porE, pnotE, calE, gcons, gnil, lcons, lnil, lstar, tupE, lstE, Rr.arg, Rr.look, Rr.fzn, Rr.re, Rr.sl, Re.rr, Sl.data, agS, box, ixD, at_, ixn, i2, addD, subD, plusD, isD, isnD, isNon, opt_some, bnd_ret, seqOf, wSeq, stv, Rr.stb, items, ife, inb, uns, Sl.inn, tName, tgT, tgCons, tgNil, h1, h2, h3, h4]
end

/-! ### who is tied to whom -/
def adj (es : List Pr) (p q : Int) : Bool := decide ((min p q, max p q) ∈ es)
def near (n : Nat) (es : List Pr) (p : Int) : List Int := (ups n).filter (adj es p)
def goes (n : Nat) (es : List Pr) (p : Int) : List Int := (ups n).filter fun q => decide (q = p) || adj es p q
theorem adj_symm (es : List Pr) (p q : Int) : adj es p q = adj es q p := by unfold adj; rw [show min p q = min q p by omega, show max p q = max q p by omega]
theorem mem_near {n : Nat} {es : List Pr} {p q : Int} : q ∈ near n es p ↔ (0 ≤ q ∧ q < n) ∧ adj es p q = true := by
  unfold near; rw [List.mem_filter, mem_ups]
theorem mem_goes {n : Nat} {es : List Pr} {p q : Int} : q ∈ goes n es p ↔ (0 ≤ q ∧ q < n) ∧ (q = p ∨ adj es p q = true) := by
  unfold goes; rw [List.mem_filter, mem_ups, Bool.or_eq_true, decide_eq_true_iff]
theorem near_len {n : Nat} {es : List Pr} {p : Int} : (near n es p).length ≤ n := by
  unfold near; exact Nat.le_trans (List.length_filter_le _ _) (by rw [ups_len]; exact Nat.le_refl _)
theorem goes_len {n : Nat} {es : List Pr} {p : Int} : (goes n es p).length ≤ n := by
  unfold goes; exact Nat.le_trans (List.length_filter_le _ _) (by rw [ups_len]; exact Nat.le_refl _)
theorem near_asc {n : Nat} {es : List Pr} {p : Int} : (near n es p).Pairwise (· < ·) := (ups_asc n).filter _
theorem goes_asc {n : Nat} {es : List Pr} {p : Int} : (goes n es p).Pairwise (· < ·) := (ups_asc n).filter _
section
variable {n : Nat} {es : List Pr} (o : OkW n es)
include o
theorem adj_rg {p q : Int} (h : adj es p q = true) : 0 ≤ p ∧ p < n ∧ 0 ≤ q ∧ q < n ∧ p ≠ q := by
  have := o.rg _ (of_decide_eq_true h)
  simp only at this
  omega
theorem others_nodup (p : Int) : ((es.filter fun e => decide (p ∈ [e.1, e.2])).map fun e => e.1 + e.2 - p).Nodup := by
  rw [List.nodup_iff_pairwise_ne, List.pairwise_map]
  have h1 := o.asc.filter fun e => decide (p ∈ [e.1, e.2])
  refine List.Pairwise.imp_of_mem (fun {a b} ha hb h => ?_) h1
  have a1 := (List.mem_filter.mp ha).2
  have b1 := (List.mem_filter.mp hb).2
  have a2 := o.rg a (List.mem_filter.mp ha).1
  have b2 := o.rg b (List.mem_filter.mp hb).1
  simp only [List.mem_cons, List.not_mem_nil, or_false, decide_eq_true_eq] at a1 b1
  omega
theorem others_near (p : Int) : isort ((es.filter fun e => decide (p ∈ [e.1, e.2])).map fun e => e.1 + e.2 - p) = near n es p := by
  refine isort_eq (others_nodup o p) near_asc fun x => ?_
  rw [mem_near, List.mem_map]
  constructor
  · rintro ⟨e, he, rfl⟩
    obtain ⟨h1, h2⟩ := List.mem_filter.mp he
    have h3 := o.rg e h1
    simp only [List.mem_cons, List.not_mem_nil, or_false, decide_eq_true_eq] at h2
    have key : adj es p (e.1 + e.2 - p) = true := by
      unfold adj
      rw [decide_eq_true_iff]
      have : (min p (e.1 + e.2 - p), max p (e.1 + e.2 - p)) = e := by
        apply Prod.ext
        · show min p (e.1 + e.2 - p) = e.1; omega
        · show max p (e.1 + e.2 - p) = e.2; omega
      rw [this]; exact h1
    exact ⟨by omega, key⟩
  · rintro ⟨h1, h2⟩
    have h3 := adj_rg o h2
    refine ⟨(min p x, max p x), List.mem_filter.mpr ⟨of_decide_eq_true h2, ?_⟩, ?_⟩
    · simp only [List.mem_cons, List.not_mem_nil, or_false, decide_eq_true_eq]; omega
    · show min p x + max p x - p = x; omega
theorem e_neighbours_of (p : Int) : d_neighbours_of [ag (wD n es), ag (.int p)] = ret (.fr (.list ((near n es p).map D.int))) := by
  have h1 := e_ties_of n es
  have h2 : d_neighbours_of_c1 [.rd (wD n es), .rd (.int p), .un, .un, .un] = ret (.fr (.list (((es.filter fun e => decide (p ∈ [e.1, e.2])).map fun e => e.1 + e.2 - p).map D.int))) := by
    have := lc_map (f := prD) (l := es) (b := fun e => decide (p ∈ [e.1, e.2])) (g := fun e => D.int (e.1 + e.2 - p)) (w := wSeq true (calE d_ties_of (gcons (var 0) gnil))) (tg := tgT (tgCons (tName 3) (tgCons (tName 4) tgNil))) (t := tst (u2 (vl2 inD) (var 1) (tupE (lcons (var 3) (lcons (var 4) lnil)))))
      (e := u2 (vl2 subD) (u2 plusD (var 3) (var 4)) (var 1)) (vs := [3, 4]) (ρ := [.rd (wD n es), .rd (.int p), .un, .un, .un]) (by simp [fn, sRet, sSeq, sSet, sIf, sNil, sDrop, u1, u2, rdv, fzv, var, cst, vl, vl2, nw, tst, tand, tor, tnot, pandE, porE, pnotE, calE, gcons, gnil, lcons, lnil, lstar, tupE, lstE, Rr.arg, Rr.look, Rr.fzn, Rr.re, Rr.sl, Re.rr, Sl.data, agS, box, ixD, at_, ixn, i2, addD, subD, plusD, isD, isnD, isNon, opt_some, bnd_ret, seqOf, wSeq, stv, Rr.stb, items, ife, inb, uns, Sl.inn, tName, tgT, tgCons, tgNil, wD, e_ties_of]; rfl) (fun e he => ⟨[.rd (wD n es), .rd (.int p), .un, .fz (.int e.1), .fz (.int e.2)], rfl, ?_, fun _ => ?_⟩) (limB (by have := o.len; omega))
    · rw [List.map_map]; exact this
    · have h := inD_ints2 [e.1, e.2] p
      have l2 : 2 ≤ lim := limB (by omega)
      simp only [List.map_cons, List.map_nil] at h
      simp [fn, sRet, sSeq, sSet, sIf, sNil, sDrop, u1, u2, rdv, fzv, var, cst, vl, vl2, nw, tst, tand, tor, tnot, pandE, porE, pnotE, calE, gcons, gnil, lcons, lnil, lstar, tupE, lstE, Rr.arg, Rr.look, Rr.fzn, Rr.re, Rr.sl, Re.rr, Sl.data, agS, box, ixD, at_, ixn, i2, addD, subD, plusD, isD, isnD, isNon, opt_some, bnd_ret, seqOf, wSeq, stv, Rr.stb, items, ife, inb, uns, Sl.inn, tName, tgT, tgCons, tgNil, h, l2]
    · rfl
  have h3 := sortE_ints ((es.filter fun e => decide (p ∈ [e.1, e.2])).map fun e => e.1 + e.2 - p)
  rw [others_near o] at h3
  generalize ((es.filter fun e => decide (p ∈ [e.1, e.2])).map fun e => e.1 + e.2 - p) = L at h2 h3
  simp [d_neighbours_of, fn, sRet, sSeq, sSet, sIf, sNil, sDrop, u1, u2, rdv, fzv, var, cst, vl, vl2, nw, tst, tand, tor, tnot, pandE, porE, pnotE, calE, gcons, gnil, lcons, lnil, lstar, tupE, lstE, Rr.arg, Rr.look, Rr.fzn, Rr.re, Rr.sl, Re.rr, Sl.data, agS, box, ixD, at_, ixn, i2, addD, subD, plusD, isD, isnD, isNon, opt_some, bnd_ret, seqOf, wSeq, stv, Rr.stb, items, ife, inb, uns, Sl.inn, tName, tgT, tgCons, tgNil, h2, h3]
theorem e_goes_of {p : Int} (h0 : 0 ≤ p) (h1 : p < n) : d_goes_of [ag (wD n es), ag (.int p)] = ret (.fr (.list ((goes n es p).map D.int))) := by
  have h2 := e_neighbours_of o p
  have h3 := sortE_ints (p :: near n es p)
  have np : p ∉ near n es p := fun h => by
    have := adj_rg o (mem_near.mp h).2
    omega
  have hs : isort (p :: near n es p) = goes n es p := by
    refine isort_eq (List.nodup_cons.mpr ⟨np, near_asc.imp fun h => by omega⟩) goes_asc fun x => ?_
    rw [List.mem_cons, mem_near, mem_goes]
    constructor
    · rintro (e | h)
      · subst e; exact ⟨⟨h0, h1⟩, .inl rfl⟩
      · exact ⟨h.1, .inr h.2⟩
    · rintro ⟨h, e | h'⟩
      · exact .inl e
      · exact .inr ⟨h, h'⟩
  rw [hs, List.map_cons] at h3
  have hl : (near n es p).length + 1 ≤ lim := limB (by have := near_len (n := n) (es := es) (p := p); have := o.n5; omega)
  simp [d_goes_of, fn, sRet, sSeq, sSet, sIf, sNil, sDrop, u1, u2, rdv, fzv, var, cst, vl, vl2, nw, tst, tand, tor, tnot, pandE, porE, pnotE, calE, gcons, gnil, lcons, lnil, lstar, tupE, lstE, Rr.arg, Rr.look, Rr.fzn, Rr.re, Rr.sl, Re.rr, Sl.data, agS, box, ixD, at_, ixn, i2, addD, subD, plusD, isD, isnD, isNon, opt_some, bnd_ret, seqOf, wSeq, stv, Rr.stb, items, ife, inb, uns, Sl.inn, tName, tgT, tgCons, tgNil, wD] at h2 ⊢
  simp [h2, fn, sRet, sSeq, sSet, sIf, sNil, sDrop, u1, u2, rdv, fzv, var, cst, vl, vl2, nw, tst, tand, tor, tnot, pandE, porE, pnotE, calE, gcons, gnil, lcons, lnil, lstar, tupE, lstE, Rr.arg, Rr.look, Rr.fzn, Rr.re, Rr.sl, Re.rr, Sl.data, agS, box, ixD, at_, ixn, i2, addD, subD, plusD, isD, isnD, isNon, opt_some, bnd_ret, seqOf, wSeq, stv, Rr.stb, items, ife, inb, uns, Sl.inn, tName, tgT, tgCons, tgNil, hl, h3]
end

/-! ### the web hangs together -/
def fD (l : List Int) : D := .dk (l.map fun i => (.inl i, .bool true))
theorem find_fD (l : List Int) (x : Int) : (find (l.map fun i => ((.inl i : Ky), D.bool true)) (.inl x)).isSome = decide (x ∈ l) := by
  unfold find
  induction l with
  | nil => rfl
  | cons a l ih =>
    rw [List.map_cons, List.find?_cons]
    by_cases h : a = x
    · subst h; simp
    · have h1 : ¬ ((.inl a : Ky) = .inl x) := fun z => h (Sum.inl.inj z)
      have h2 : x ≠ a := fun z => h z.symm
      simp only [h1, decide_false]
      rw [ih]
      simp [h2]
theorem ninD_fD (l : List Int) (x : Int) : ninD (.int x) (fD l) = some (.bool (!decide (x ∈ l))) := by
  show (dget (fD l) (.int x)).map (fun o => D.bool (!o.isSome)) = _
  show some (D.bool (!(find (l.map fun i => ((.inl i : Ky), D.bool true)) (.inl x)).isSome)) = _
  rw [find_fD]
theorem putO_fD {l : List Int} {x : Int} (h : x ∉ l) (hl : l.length < lim) : putO (fD l) (.int x) (.bool true) = some (fD (l ++ [x])) := by
  show (if (l.map fun i => ((.inl i : Ky), D.bool true)).length < lim then some (D.dk (putL _ (.inl x) (.bool true))) else none) = _
  rw [if_pos (by rw [List.length_map]; exact hl)]
  unfold putL
  have : ((l.map fun i => ((.inl i : Ky), D.bool true)).any fun p => decide (p.1 = .inl x)) = false := by
    rw [List.any_eq_false]
    intro p hp
    obtain ⟨i, hi, rfl⟩ := List.mem_map.mp hp
    simp only [decide_eq_true_eq]
    intro z
    exact h (Sum.inl.inj z ▸ hi)
  rw [this]
  simp [fD]
def pR (n : Nat) (es : List Pr) (l wt : List Int) (h : Sl) : Rho := [.rd (wD n es), .rd (.tuple ((ups n).map D.int)), .rd (.int 0), .own (fD l), .own (.list (wt.map D.int)), h, .un]
structure PInv (n : Nat) (es : List Pr) (l wt : List Int) : Prop where
  nd : l.Nodup
  rl : ∀ x ∈ l, 0 ≤ x ∧ x < n
  rw : ∀ x ∈ wt, 0 ≤ x ∧ x < n
  cl : ∀ x ∈ l, ∀ y, adj es x y = true → y ∈ l ∨ y ∈ wt
  st : (0 : Int) ∈ l ∨ (0 : Int) ∈ wt
theorem len_sub {α : Type} [DecidableEq α] : ∀ {l m : List α}, l.Nodup → (∀ x ∈ l, x ∈ m) → l.length ≤ m.length
  | [], _, _, _ => Nat.zero_le _
  | x :: l, m, nd, h => by
    obtain ⟨h1, h2⟩ := List.nodup_cons.mp nd
    have hx := h x List.mem_cons_self
    have ih := len_sub (l := l) (m := m.erase x) h2 fun y hy => by
      have hne : y ≠ x := fun e => h1 (e ▸ hy)
      exact (List.mem_erase_of_ne hne).mpr (h y (List.mem_cons_of_mem _ hy))
    rw [List.length_erase_of_mem hx] at ih
    have := List.length_pos_of_mem hx
    rw [List.length_cons]
    omega
theorem nodup_len {n : Nat} {l : List Int} (nd : l.Nodup) (h : ∀ x ∈ l, 0 ≤ x ∧ x < n) : l.length ≤ n := by
  have := len_sub (m := ups n) nd fun x hx => mem_ups.mpr (h x hx)
  rwa [ups_len] at this
section
variable {n : Nat} {es : List Pr} (o : OkW n es)
include o
theorem part_c1 {l wt : List Int} {x : Int} : d_part_with_c1 (pR n es l wt (.fz (.int x))) = ret (.fr (.list ((near n es x).map D.int))) := by
  have h2 := e_neighbours_of o x
  have h := lc_map (f := D.int) (l := near n es x) (b := fun q => decide (q ∈ ups n)) (g := D.int) (w := wSeq true (calE d_neighbours_of (gcons (var 0) (gcons (var 5) gnil)))) (tg := tName 6) (t := tst (u2 (vl2 inD) (var 6) (var 1))) (e := var 6) (vs := [6]) (ρ := pR n es l wt (.fz (.int x)))
    (by simp [fn, sRet, sSeq, sSet, sIf, sNil, sDrop, u1, u2, rdv, fzv, var, cst, vl, vl2, nw, tst, tand, tor, tnot, pandE, porE, pnotE, calE, gcons, gnil, lcons, lnil, lstar, tupE, lstE, Rr.arg, Rr.look, Rr.fzn, Rr.re, Rr.sl, Re.rr, Sl.data, agS, box, ixD, at_, ixn, i2, addD, subD, plusD, isD, isnD, isNon, opt_some, bnd_ret, seqOf, wSeq, stv, Rr.stb, items, ife, inb, uns, Sl.inn, tName, tgT, tgCons, tgNil, pR, wD] at h2 ⊢; simp [h2, fn, sRet, sSeq, sSet, sIf, sNil, sDrop, u1, u2, rdv, fzv, var, cst, vl, vl2, nw, tst, tand, tor, tnot, pandE, porE, pnotE, calE, gcons, gnil, lcons, lnil, lstar, tupE, lstE, Rr.arg, Rr.look, Rr.fzn, Rr.re, Rr.sl, Re.rr, Sl.data, agS, box, ixD, at_, ixn, i2, addD, subD, plusD, isD, isnD, isNon, opt_some, bnd_ret, seqOf, wSeq, stv, Rr.stb, items, ife, inb, uns, Sl.inn, tName, tgT, tgCons, tgNil]) (fun q hq => ⟨[.rd (wD n es), .rd (.tuple ((ups n).map D.int)), .rd (.int 0), .rd (fD l), .rd (.list (wt.map D.int)), .fz (.int x), .fz (.int q)], rfl, by simp [fn, sRet, sSeq, sSet, sIf, sNil, sDrop, u1, u2, rdv, fzv, var, cst, vl, vl2, nw, tst, tand, tor, tnot, pandE, porE, pnotE, calE, gcons, gnil, lcons, lnil, lstar, tupE, lstE, Rr.arg, Rr.look, Rr.fzn, Rr.re, Rr.sl, Re.rr, Sl.data, agS, box, ixD, at_, ixn, i2, addD, subD, plusD, isD, isnD, isNon, opt_some, bnd_ret, seqOf, wSeq, stv, Rr.stb, items, ife, inb, uns, Sl.inn, tName, tgT, tgCons, tgNil], fun _ => rfl⟩) (limB (by have := near_len (n := n) (es := es) (p := x); have := o.n5; omega))
  have e : (near n es x).filter (fun q => decide (q ∈ ups n)) = near n es x := List.filter_eq_self.mpr fun q hq => decide_eq_true (mem_ups.mpr (mem_near.mp hq).1)
  rw [e] at h
  exact h
theorem part_b1 {l wt : List Int} {x : Int} {h : Sl} (hl : l.length ≤ 10) (hw : wt.length ≤ 100) : d_part_with_b1 (pR n es l (wt ++ [x]) h) = ret (.nx (if x ∈ l then pR n es l wt (.fz (.int x)) else pR n es (l ++ [x]) (wt ++ near n es x) (.fz (.int x)))) := by
  have h1 : popD (.list ((wt ++ [x]).map D.int)) = some (.list (wt.map D.int), .int x) := by
    simp [popD]
  have h2 := ninD_fD l x
  have h3 : sOwn0 "list" 4 5 popD (pR n es l (wt ++ [x]) h) = ret (.nx (pR n es l wt (.fz (.int x)))) := by
    unfold sOwn0
    show bnd (opt (popD (.list ((wt ++ [x]).map D.int)))) _ = _
    rw [h1]
    rfl
  have l1 : l.length < lim := by unfold lim; omega
  have l2 : wt.length + (near n es x).length ≤ lim := limB (by have := near_len (n := n) (es := es) (p := x); have := o.n5; omega)
  by_cases c : x ∈ l
  · rw [if_pos c]
    unfold d_part_with_b1 sSeq
    rw [h3]
    simp [fn, sRet, sSeq, sSet, sIf, sNil, sDrop, u1, u2, rdv, fzv, var, cst, vl, vl2, nw, tst, tand, tor, tnot, pandE, porE, pnotE, calE, gcons, gnil, lcons, lnil, lstar, tupE, lstE, Rr.arg, Rr.look, Rr.fzn, Rr.re, Rr.sl, Re.rr, Sl.data, agS, box, ixD, at_, ixn, i2, addD, subD, plusD, isD, isnD, isNon, opt_some, bnd_ret, seqOf, wSeq, stv, Rr.stb, items, ife, inb, uns, Sl.inn, tName, tgT, tgCons, tgNil, pR, h2, c]
  · rw [if_neg c]
    have h4 := putO_fD c l1
    have h5 := part_c1 (n := n) (es := es) o (l := l ++ [x]) (wt := wt) (x := x)
    have h6 : extD (.list (wt.map D.int)) (.list ((near n es x).map D.int)) = some (.list ((wt ++ near n es x).map D.int)) := by
      show (if (wt.map D.int).length + ((near n es x).map D.int).length ≤ lim then some (D.list (wt.map D.int ++ (near n es x).map D.int)) else none) = _
      rw [if_pos (by rw [List.length_map, List.length_map]; exact l2), List.map_append]
    have h7 : sPut 3 (var 5) (cst (.bool true)) (pR n es l wt (.fz (.int x))) = ret (.nx (pR n es (l ++ [x]) wt (.fz (.int x)))) := by
      unfold sPut
      show bnd (opt (putO (fD l) (.int x) (.bool true))) _ = _
      rw [h4]
      rfl
    have h8 : sOwn2 "list" 4 d_part_with_c1 extD (pR n es (l ++ [x]) wt (.fz (.int x))) = ret (.nx (pR n es (l ++ [x]) (wt ++ near n es x) (.fz (.int x)))) := by
      unfold sOwn2
      show bnd (d_part_with_c1 (pR n es (l ++ [x]) wt (.fz (.int x)))) _ = _
      rw [h5]
      show bnd (opt (extD (.list (wt.map D.int)) (.list ((near n es x).map D.int)))) _ = _
      rw [h6]
      rfl
    have h9 : tst (u2 (vl2 ninD) (var 5) (var 3)) (pR n es l wt (.fz (.int x))) = ret true := by
      simp [fn, sRet, sSeq, sSet, sIf, sNil, sDrop, u1, u2, rdv, fzv, var, cst, vl, vl2, nw, tst, tand, tor, tnot, pandE, porE, pnotE, calE, gcons, gnil, lcons, lnil, lstar, tupE, lstE, Rr.arg, Rr.look, Rr.fzn, Rr.re, Rr.sl, Re.rr, Sl.data, agS, box, ixD, at_, ixn, i2, addD, subD, plusD, isD, isnD, isNon, opt_some, bnd_ret, seqOf, wSeq, stv, Rr.stb, items, ife, inb, uns, Sl.inn, tName, tgT, tgCons, tgNil, pR, h2, c]
    unfold d_part_with_b1 sSeq
    simp only [h3, bnd_ret, sIf, h9, if_true, h7, h8]
theorem part_t (l wt : List Int) (h : Sl) : tst (u2 (vl2 neD) (var 4) (lstE lnil)) (pR n es l wt h) = ret (!wt.isEmpty) := by
  have h1 := neD_nil (shp_ints1 wt)
  have e : (wt.map D.int).isEmpty = wt.isEmpty := by cases wt <;> rfl
  rw [e] at h1
  have l0 : 0 ≤ lim := Nat.zero_le _
  simp [fn, sRet, sSeq, sSet, sIf, sNil, sDrop, u1, u2, rdv, fzv, var, cst, vl, vl2, nw, tst, tand, tor, tnot, pandE, porE, pnotE, calE, gcons, gnil, lcons, lnil, lstar, tupE, lstE, Rr.arg, Rr.look, Rr.fzn, Rr.re, Rr.sl, Re.rr, Sl.data, agS, box, ixD, at_, ixn, i2, addD, subD, plusD, isD, isnD, isNon, opt_some, bnd_ret, seqOf, wSeq, stv, Rr.stb, items, ife, inb, uns, Sl.inn, tName, tgT, tgCons, tgNil, pR, h1]
theorem part_go : ∀ (m : Nat) (l wt : List Int) (h : Sl), PInv n es l wt → (n - l.length) * (n + 1) + wt.length < m → wt.length + (n - l.length) * n ≤ 60 →
    ∃ l' h', PInv n es l' [] ∧ (∀ f, whileGo (tst (u2 (vl2 neD) (var 4) (lstE lnil))) d_part_with_b1 f (pR n es l wt h) = fail ∨ whileGo (tst (u2 (vl2 neD) (var 4) (lstE lnil))) d_part_with_b1 f (pR n es l wt h) = ret (.nx (pR n es l' [] h'))) ∧
      ∃ f, whileGo (tst (u2 (vl2 neD) (var 4) (lstE lnil))) d_part_with_b1 f (pR n es l wt h) = ret (.nx (pR n es l' [] h'))
  | 0, _, _, _, _, hm, _ => absurd hm (Nat.not_lt_zero _)
  | m + 1, l, wt, h, I, hm, hb => by
    have hl := nodup_len I.nd I.rl
    have n5 := o.n5
    rcases List.eq_nil_or_concat wt with e | ⟨wt', x, e⟩
    · subst e
      have key : ∀ f, whileGo (tst (u2 (vl2 neD) (var 4) (lstE lnil))) d_part_with_b1 (f + 1) (pR n es l [] h) = ret (.nx (pR n es l [] h)) := fun f => by
        unfold whileGo
        rw [part_t o]
        rfl
      refine ⟨l, h, I, fun f => ?_, 1, key 0⟩
      cases f with
      | zero => exact .inl rfl
      | succ f => exact .inr (key f)
    · rw [List.concat_eq_append] at e
      subst e
      rw [List.length_append, List.length_singleton] at hm hb
      have hb1 := part_b1 (n := n) (es := es) o (l := l) (wt := wt') (x := x) (h := h) (by omega) (by omega)
      have xr := I.rw x (by simp)
      have stp : ∀ f, whileGo (tst (u2 (vl2 neD) (var 4) (lstE lnil))) d_part_with_b1 (f + 1) (pR n es l (wt' ++ [x]) h) = whileGo (tst (u2 (vl2 neD) (var 4) (lstE lnil))) d_part_with_b1 f (if x ∈ l then pR n es l wt' (.fz (.int x)) else pR n es (l ++ [x]) (wt' ++ near n es x) (.fz (.int x))) := fun f => by
        conv => lhs; unfold whileGo
        rw [part_t o]
        have : (!(wt' ++ [x]).isEmpty) = true := by cases wt' <;> rfl
        rw [this]
        show bnd (d_part_with_b1 (pR n es l (wt' ++ [x]) h)) _ = _
        rw [hb1]
        rfl
      have fin : ∀ ρ2, (∃ l' h', PInv n es l' [] ∧ (∀ f, whileGo (tst (u2 (vl2 neD) (var 4) (lstE lnil))) d_part_with_b1 f ρ2 = fail ∨ whileGo (tst (u2 (vl2 neD) (var 4) (lstE lnil))) d_part_with_b1 f ρ2 = ret (.nx (pR n es l' [] h'))) ∧
          ∃ f, whileGo (tst (u2 (vl2 neD) (var 4) (lstE lnil))) d_part_with_b1 f ρ2 = ret (.nx (pR n es l' [] h'))) → (if x ∈ l then pR n es l wt' (.fz (.int x)) else pR n es (l ++ [x]) (wt' ++ near n es x) (.fz (.int x))) = ρ2 →
          ∃ l' h', PInv n es l' [] ∧ (∀ f, whileGo (tst (u2 (vl2 neD) (var 4) (lstE lnil))) d_part_with_b1 f (pR n es l (wt' ++ [x]) h) = fail ∨ whileGo (tst (u2 (vl2 neD) (var 4) (lstE lnil))) d_part_with_b1 f (pR n es l (wt' ++ [x]) h) = ret (.nx (pR n es l' [] h'))) ∧
          ∃ f, whileGo (tst (u2 (vl2 neD) (var 4) (lstE lnil))) d_part_with_b1 f (pR n es l (wt' ++ [x]) h) = ret (.nx (pR n es l' [] h')) := by
        rintro ρ2 ⟨l', h', I', a, f0, b⟩ e
        refine ⟨l', h', I', fun f => ?_, f0 + 1, by rw [stp, e]; exact b⟩
        cases f with
        | zero => exact .inl rfl
        | succ f => rw [stp, e]; exact a f
      by_cases c : x ∈ l
      · refine fin _ (part_go m l wt' (.fz (.int x)) ⟨I.nd, I.rl, fun y hy => I.rw y (by simp [hy]), fun y hy z hz => ?_, ?_⟩ (by omega) (by omega)) (if_pos c)
        · rcases I.cl y hy z hz with q | q
          · exact .inl q
          · rcases List.mem_append.mp q with q | q
            · exact .inr q
            · rw [List.mem_singleton] at q; subst q; exact .inl c
        · rcases I.st with q | q
          · exact .inl q
          · rcases List.mem_append.mp q with q | q
            · exact .inr q
            · rw [List.mem_singleton] at q; rw [← q] at c; exact .inl c
      · have nd : (l ++ [x]).Nodup := by
          rw [List.nodup_append]
          exact ⟨I.nd, by simp, fun a ha b hb e => by rw [List.mem_singleton] at hb; subst hb; subst e; exact c ha⟩
        have rl : ∀ y ∈ l ++ [x], 0 ≤ y ∧ y < n := fun y hy => by
          rcases List.mem_append.mp hy with q | q
          · exact I.rl y q
          · rw [List.mem_singleton] at q; subst q; exact xr
        have hl2 := nodup_len nd rl
        rw [List.length_append, List.length_singleton] at hl2
        have nl := near_len (n := n) (es := es) (p := x)
        obtain ⟨k, hk⟩ : ∃ k, n - l.length = k + 1 := ⟨n - l.length - 1, by omega⟩
        have hk2 : n - (l ++ [x]).length = k := by rw [List.length_append, List.length_singleton]; omega
        refine fin _ (part_go m (l ++ [x]) (wt' ++ near n es x) (.fz (.int x)) ⟨nd, rl, fun y hy => ?_, fun y hy z hz => ?_, ?_⟩ ?_ ?_) (if_neg c)
        · rcases List.mem_append.mp hy with q | q
          · exact I.rw y (by simp [q])
          · exact (mem_near.mp q).1
        · rcases List.mem_append.mp hy with q | q
          · rcases I.cl y q z hz with w | w
            · exact .inl (by simp [w])
            · rcases List.mem_append.mp w with w | w
              · exact .inr (by simp [w])
              · rw [List.mem_singleton] at w; subst w; exact .inl (by simp)
          · rw [List.mem_singleton] at q
            subst q
            have := adj_rg o hz
            exact .inr (List.mem_append_right _ (mem_near.mpr ⟨by omega, hz⟩))
        · rcases I.st with q | q
          · exact .inl (by simp [q])
          · rcases List.mem_append.mp q with q | q
            · exact .inr (by simp [q])
            · rw [List.mem_singleton] at q; subst q; exact .inl (by simp)
        · rw [hk2, List.length_append]
          rw [hk, Nat.add_mul, Nat.one_mul] at hm
          omega
        · rw [hk2, List.length_append]
          rw [hk, Nat.add_mul, Nat.one_mul] at hb
          omega
theorem part_all {l : List Int} (I : PInv n es l []) : ∀ (k : Nat) (v : Int), v.toNat ≤ k → 0 ≤ v → v < n → v ∈ l
  | 0, v, hk, h0, h1 => by
    have e : v = 0 := by omega
    subst e
    rcases I.st with q | q
    · exact q
    · cases q
  | k + 1, v, hk, h0, h1 => by
    by_cases e : v = 0
    · subst e
      rcases I.st with q | q
      · exact q
      · cases q
    · obtain ⟨u, u0, u1, hu⟩ := o.con v (by omega) h1
      have ih := part_all I k u (by omega) u0 (by omega)
      have ha : adj es u v = true := by
        unfold adj
        rw [show min u v = u by omega, show max u v = v by omega]
        exact decide_eq_true hu
      rcases I.cl u ih v ha with q | q
      · exact q
      · cases q
theorem e_part_with : d_part_with [ag (wD n es), ag (.tuple ((ups n).map D.int)), ag (.int 0)] = ret (.val (.tuple ((ups n).map D.int))) := by
  have n3 := o.n3
  have n5 := o.n5
  have hm : (n - ([] : List Int).length) * (n + 1) + ([(0 : Int)] : List Int).length < 1000 := by
    simp only [List.length_nil, List.length_singleton, Nat.sub_zero]
    have : n * (n + 1) ≤ 5 * 6 := Nat.mul_le_mul n5 (by omega)
    omega
  have hb : ([(0 : Int)] : List Int).length + (n - ([] : List Int).length) * n ≤ 60 := by
    simp only [List.length_nil, List.length_singleton, Nat.sub_zero]
    have : n * n ≤ 5 * 5 := Nat.mul_le_mul n5 n5
    omega
  obtain ⟨l', h', I, a, f0, b⟩ := part_go o 1000 [] [0] .un ⟨List.nodup_nil, (fun x hx => by cases hx), (fun x hx => by rw [List.mem_singleton] at hx; omega), (fun x hx => by cases hx), .inr (by simp)⟩ hm hb
  have hw : d_part_with_l1 (pR n es [] [0] .un) = ret (.nx (pR n es l' [] h')) := by
    funext Q
    apply propext
    constructor
    · rintro ⟨f, q⟩
      rcases a f with e | e
      · rw [e] at q; exact q.elim
      · rw [e] at q; exact q
    · intro q
      exact ⟨f0, by rw [b]; exact q⟩
  have hs : sortE (fD l') = some (.list ((ups n).map D.int)) := by
    have e : kyD (l'.map fun i => ((.inl i : Ky), D.bool true)) = l'.map D.int := by
      unfold kyD
      rw [List.map_map]
      rfl
    show (if okSort (kyD (l'.map fun i => ((.inl i : Ky), D.bool true))) = true then some (D.list (dsort (kyD (l'.map fun i => ((.inl i : Ky), D.bool true))))) else none) = _
    rw [e, if_pos (okSort_ints l'), dsort_ints]
    have : isort l' = ups n := isort_eq I.nd (ups_asc n) fun x => by
      rw [mem_ups]
      exact ⟨fun h => I.rl x h, fun h => part_all o I x.toNat x (Nat.le_refl _) h.1 h.2⟩
    rw [this]
  have h1 : sPar 3 4 newK (lstE (lcons (var 2) lnil)) [.rd (wD n es), .rd (.tuple ((ups n).map D.int)), .rd (.int 0), .un, .un, .un, .un] = ret (.nx (pR n es [] [0] .un)) := by
    have : 1 ≤ lim := limB (by omega)
    simp [sPar, newK, fn, sRet, sSeq, sSet, sIf, sNil, sDrop, u1, u2, rdv, fzv, var, cst, vl, vl2, nw, tst, tand, tor, tnot, pandE, porE, pnotE, calE, gcons, gnil, lcons, lnil, lstar, tupE, lstE, Rr.arg, Rr.look, Rr.fzn, Rr.re, Rr.sl, Re.rr, Sl.data, agS, box, ixD, at_, ixn, i2, addD, subD, plusD, isD, isnD, isNon, opt_some, bnd_ret, seqOf, wSeq, stv, Rr.stb, items, ife, inb, uns, Sl.inn, tName, tgT, tgCons, tgNil, Rr.nal, this, pR, fD]
  simp only [d_part_with, fn, List.length_cons, List.length_nil, List.map_cons, List.map_nil, agS, List.cons_append, List.nil_append, List.replicate, sSeq, if_true, ag]
  rw [h1]
  simp only [bnd_ret, hw]
  simp [fn, sRet, sSeq, sSet, sIf, sNil, sDrop, u1, u2, rdv, fzv, var, cst, vl, vl2, nw, tst, tand, tor, tnot, pandE, porE, pnotE, calE, gcons, gnil, lcons, lnil, lstar, tupE, lstE, Rr.arg, Rr.look, Rr.fzn, Rr.re, Rr.sl, Re.rr, Sl.data, agS, box, ixD, at_, ixn, i2, addD, subD, plusD, isD, isnD, isNon, opt_some, bnd_ret, seqOf, wSeq, stv, Rr.stb, items, ife, inb, uns, Sl.inn, tName, tgT, tgCons, tgNil, pR, hs, tupD]
theorem e_hangs_by : d_hangs_by [ag (wD n es), ag (.tuple ((ups n).map D.int))] = ret (.val (.bool true)) := by
  have n3 := o.n3
  have h := e_part_with o
  have h0 : at_ ((ups n).map D.int) 0 = some (.int 0) := by
    have e : (ups n)[0]? = some 0 := by
      unfold ups
      rw [List.getElem?_map, List.getElem?_range (by omega)]
      rfl
    have hl := ups_len n
    unfold at_ ixn
    rw [List.length_map, hl, if_pos (by omega), if_pos (by omega)]
    simp [e]
  simp only [ag, wD] at h
  simp [d_hangs_by, fn, sRet, u2, u1, rdv, var, vl, vl2, calE, gcons, gnil, Rr.look, Sl.data, agS, box, ixD, cst, wD, h0, h, Rr.arg, Re.rr, Rr.re, ag]
theorem e_is_webbed : d_is_webbed [ag (wD n es)] = ret (.val (.bool true)) := by
  have h1 := e_is_tuple_of (xs := [.int n, .tuple (es.map prD)]) (k := 2) rfl
  have h2 := e_is_place_number o
  have h3 := e_are_ties o
  have h4 := e_places_of o
  have h5 := e_hangs_by o
  simp only [ag, wD] at h1 h2 h3 h4 h5
  simp [d_is_webbed, fn, sRet, sSeq, sSet, sIf, sNil, sDrop, u1, u2, rdv, fzv, var, cst, vl, vl2, nw, tst, tand, tor, tnot, pandE, porE, pnotE, calE, gcons, gnil, lcons, lnil, lstar, tupE, lstE, Rr.arg, Rr.look, Rr.fzn, Rr.re, Rr.sl, Re.rr, Sl.data, agS, box, ixD, at_, ixn, i2, addD, subD, plusD, isD, isnD, isNon, opt_some, bnd_ret, seqOf, wSeq, stv, Rr.stb, items, ife, inb, uns, Sl.inn, tName, tgT, tgCons, tgNil, wD, h1, h2, h3, h4, h5, tupD]
theorem e_check_web : d_check_web [ag (wD n es)] = ret (.val .none) := by
  have h := e_is_webbed o
  simp only [ag, wD] at h
  simp [d_check_web, fn, sRet, sSeq, sSet, sIf, sNil, sDrop, u1, u2, rdv, fzv, var, cst, vl, vl2, nw, tst, tand, tor, tnot, pandE, porE, pnotE, calE, gcons, gnil, lcons, lnil, lstar, tupE, lstE, Rr.arg, Rr.look, Rr.fzn, Rr.re, Rr.sl, Re.rr, Sl.data, agS, box, ixD, at_, ixn, i2, addD, subD, plusD, isD, isnD, isNon, opt_some, bnd_ret, seqOf, wSeq, stv, Rr.stb, items, ife, inb, uns, Sl.inn, tName, tgT, tgCons, tgNil, wD, h]
theorem e_check_place {p : Int} (h0 : 0 ≤ p) (h1 : p < n) : d_check_place [ag (wD n es), ag (.int p)] = ret (.val .none) := by
  have h := e_is_place_of o h0 h1
  simp only [ag, wD] at h
  simp [d_check_place, fn, sRet, sSeq, sSet, sIf, sNil, sDrop, u1, u2, rdv, fzv, var, cst, vl, vl2, nw, tst, tand, tor, tnot, pandE, porE, pnotE, calE, gcons, gnil, lcons, lnil, lstar, tupE, lstE, Rr.arg, Rr.look, Rr.fzn, Rr.re, Rr.sl, Re.rr, Sl.data, agS, box, ixD, at_, ixn, i2, addD, subD, plusD, isD, isnD, isNon, opt_some, bnd_ret, seqOf, wSeq, stv, Rr.stb, items, ife, inb, uns, Sl.inn, tName, tgT, tgCons, tgNil, wD, h]
theorem e_check_web_place {p : Int} (h0 : 0 ≤ p) (h1 : p < n) : d_check_web_place [ag (wD n es), ag (.int p)] = ret (.val .none) := by
  have h := e_check_place o h0 h1
  have h' := e_check_web o
  simp only [ag, wD] at h h'
  simp [d_check_web_place, fn, sRet, sSeq, sSet, sIf, sNil, sDrop, u1, u2, rdv, fzv, var, cst, vl, vl2, nw, tst, tand, tor, tnot, pandE, porE, pnotE, calE, gcons, gnil, lcons, lnil, lstar, tupE, lstE, Rr.arg, Rr.look, Rr.fzn, Rr.re, Rr.sl, Re.rr, Sl.data, agS, box, ixD, at_, ixn, i2, addD, subD, plusD, isD, isnD, isNon, opt_some, bnd_ret, seqOf, wSeq, stv, Rr.stb, items, ife, inb, uns, Sl.inn, tName, tgT, tgCons, tgNil, wD, h, h']
theorem e_check_two_places {p q : Int} (h0 : 0 ≤ p) (h1 : p < n) (h2 : 0 ≤ q) (h3 : q < n) : d_check_two_places [ag (wD n es), ag (.int p), ag (.int q)] = ret (.val .none) := by
  have h := e_check_place o h2 h3
  have h' := e_check_web_place o h0 h1
  simp only [ag, wD] at h h'
  simp [d_check_two_places, fn, sRet, sSeq, sSet, sIf, sNil, sDrop, u1, u2, rdv, fzv, var, cst, vl, vl2, nw, tst, tand, tor, tnot, pandE, porE, pnotE, calE, gcons, gnil, lcons, lnil, lstar, tupE, lstE, Rr.arg, Rr.look, Rr.fzn, Rr.re, Rr.sl, Re.rr, Sl.data, agS, box, ixD, at_, ixn, i2, addD, subD, plusD, isD, isnD, isNon, opt_some, bnd_ret, seqOf, wSeq, stv, Rr.stb, items, ife, inb, uns, Sl.inn, tName, tgT, tgCons, tgNil, wD, h, h']
theorem e_neighbours {p : Int} (h0 : 0 ≤ p) (h1 : p < n) : d_neighbours [ag (wD n es), ag (.int p)] = ret (.val (.tuple ((near n es p).map D.int))) := by
  have h := e_neighbours_of o p
  have h' := e_check_web_place o h0 h1
  simp only [ag, wD] at h h'
  simp [d_neighbours, fn, sRet, sSeq, sSet, sIf, sNil, sDrop, u1, u2, rdv, fzv, var, cst, vl, vl2, nw, tst, tand, tor, tnot, pandE, porE, pnotE, calE, gcons, gnil, lcons, lnil, lstar, tupE, lstE, Rr.arg, Rr.look, Rr.fzn, Rr.re, Rr.sl, Re.rr, Sl.data, agS, box, ixD, at_, ixn, i2, addD, subD, plusD, isD, isnD, isNon, opt_some, bnd_ret, seqOf, wSeq, stv, Rr.stb, items, ife, inb, uns, Sl.inn, tName, tgT, tgCons, tgNil, wD, h, h', tupD]
theorem e_is_bare : d_is_bare [ag (wD n es)] = ret (.val (.bool (decide (es.length = n - 1)))) := by
  have h := e_check_web o
  have n3 := o.n3
  have h2 : (decide ((es.length : Int) = (n : Int) - 1)) = decide (es.length = n - 1) := by
    rw [decide_eq_decide]; omega
  simp only [ag, wD] at h
  simp [d_is_bare, d_is_bare_by, d_ties_of, d_place_count, fn, sRet, sSeq, sSet, sIf, sNil, sDrop, u1, u2, rdv, fzv, var, cst, vl, vl2, nw, tst, tand, tor, tnot, pandE, porE, pnotE, calE, gcons, gnil, lcons, lnil, lstar, tupE, lstE, Rr.arg, Rr.look, Rr.fzn, Rr.re, Rr.sl, Re.rr, Sl.data, agS, box, ixD, at_, ixn, i2, addD, subD, plusD, isD, isnD, isNon, opt_some, bnd_ret, seqOf, wSeq, stv, Rr.stb, items, ife, inb, uns, Sl.inn, tName, tgT, tgCons, tgNil, wD, h, h2]
end
end HK

set_option Elab.async false
set_option linter.all false
set_option maxRecDepth 100000
/-! M52b: turns. -/
namespace HK
open PySem PV
def pairs (n : Nat) : List Pr := (ups n).flatMap fun p => (ups n).map fun q => (p, q)
theorem mem_pairs {n : Nat} {a : Pr} : a ∈ pairs n ↔ (0 ≤ a.1 ∧ a.1 < n) ∧ (0 ≤ a.2 ∧ a.2 < n) := by
  unfold pairs
  rw [List.mem_flatMap]
  constructor
  · rintro ⟨p, hp, h⟩
    obtain ⟨q, hq, rfl⟩ := List.mem_map.mp h
    exact ⟨mem_ups.mp hp, mem_ups.mp hq⟩
  · rintro ⟨h1, h2⟩
    exact ⟨a.1, mem_ups.mpr h1, List.mem_map.mpr ⟨a.2, mem_ups.mpr h2, rfl⟩⟩
theorem pairs_nodup (n : Nat) : (pairs n).Nodup := by
  unfold pairs List.Nodup
  rw [List.pairwise_flatMap]
  refine ⟨fun p hp => ?_, ?_⟩
  · rw [List.pairwise_map]
    exact (ups_asc n).imp fun h e => by have := congrArg Prod.snd e; simp only at this; omega
  · refine (ups_asc n).imp fun h x hx y hy e => ?_
    obtain ⟨q, _, rfl⟩ := List.mem_map.mp hx
    obtain ⟨r, _, rfl⟩ := List.mem_map.mp hy
    have := congrArg Prod.fst e
    simp only at this
    omega
theorem flat_len {α β : Type} {f : α → List β} {m : Nat} : ∀ (l : List α), (∀ a ∈ l, (f a).length = m) → (l.flatMap f).length = m * l.length
  | [], _ => rfl
  | x :: l, h => by
    rw [List.flatMap_cons, List.length_append, h x List.mem_cons_self, flat_len l fun a ha => h a (List.mem_cons_of_mem _ ha), List.length_cons, Nat.mul_add, Nat.mul_one, Nat.add_comm]
theorem pairs_len (n : Nat) : (pairs n).length = n * n := by
  unfold pairs
  rw [flat_len (m := n) (ups n) fun a _ => by rw [List.length_map, ups_len], ups_len]
/-- whether the hunter at p closes on the hare at h -/
def dcl (n : Nat) (es : List Pr) (T : Tn) (p h : Int) : Bool := decide (p = h) || ((goes n es h).filter fun t => !decide (t = p)).all fun t => (lk T (p, t)).isSome
def cm (n : Nat) (es : List Pr) (T : Tn) (a : Pr) : List Int := (goes n es a.1).filter fun t => dcl n es T t a.2
def fresh (n : Nat) (es : List Pr) (T : Tn) : List Pr := (pairs n).filter fun a => !(lk T a).isSome && !(cm n es T a).isEmpty
def rounds (n : Nat) (es : List Pr) : Nat → Int → Tn → Tn
  | 0, _, T => T
  | k + 1, i, T => if (fresh n es T).isEmpty = true then T else rounds n es k (i + 1) (T ++ (fresh n es T).map fun a => (a, i))
def diag (n : Nat) : Tn := (ups n).map fun p => ((p, p), 0)
def turnsT (n : Nat) (es : List Pr) : Tn := rounds n es (pairs n).length 1 (diag n)
section
variable {n : Nat} {es : List Pr} (o : OkW n es)
include o
theorem sq : n * n ≤ 25 := by have h := o.n5; have := Nat.mul_le_mul h h; omega
theorem e_all_pairs : d_all_pairs [ag (wD n es)] = ret (.fr (.list ((pairs n).map prD))) := by
  have h4 := e_places_of o
  have n5 := o.n5
  have l2 : 2 ≤ lim := limB (by omega)
  have hl := ups_len n
  have h := lc2_map (f := D.int) (f1 := D.int) (l := ups n) (ys := fun _ => ups n) (b1 := fun _ _ => true) (g := fun p q => prD (p, q)) (w := wSeq true (calE d_places_of (gcons (var 0) gnil))) (tg := tName 1) (tg1 := tName 2) (t := yes) (t1 := yes) (w1 := wSeq false (calE d_places_of (gcons (var 0) gnil))) (vs := [1, 2]) (vs1 := [2])
    (e := tupE (lcons (var 1) (lcons (var 2) lnil))) (ρ := [.rd (wD n es), .un, .un]) (m := 5)
    (by simp only [ag, wD] at h4; simp [fn, sRet, sSeq, sSet, sIf, sNil, sDrop, u1, u2, rdv, fzv, var, cst, vl, vl2, nw, tst, tand, tor, tnot, pandE, porE, pnotE, calE, gcons, gnil, lcons, lnil, lstar, tupE, lstE, Rr.arg, Rr.look, Rr.fzn, Rr.re, Rr.sl, Re.rr, Sl.data, agS, box, ixD, at_, ixn, i2, addD, subD, plusD, isD, isnD, isNon, opt_some, bnd_ret, seqOf, wSeq, stv, Rr.stb, items, ife, inb, uns, Sl.inn, tName, tgT, tgCons, tgNil, wD, h4]) (fun p hp => ⟨by omega, [.rd (wD n es), .fz (.int p), .un], rfl, rfl, by simp only [ag, wD] at h4; simp [fn, sRet, sSeq, sSet, sIf, sNil, sDrop, u1, u2, rdv, fzv, var, cst, vl, vl2, nw, tst, tand, tor, tnot, pandE, porE, pnotE, calE, gcons, gnil, lcons, lnil, lstar, tupE, lstE, Rr.arg, Rr.look, Rr.fzn, Rr.re, Rr.sl, Re.rr, Sl.data, agS, box, ixD, at_, ixn, i2, addD, subD, plusD, isD, isnD, isNon, opt_some, bnd_ret, seqOf, wSeq, stv, Rr.stb, items, ife, inb, uns, Sl.inn, tName, tgT, tgCons, tgNil, wD, h4], fun q hq => ⟨[.rd (wD n es), .fz (.int p), .fz (.int q)], rfl, rfl, fun _ => by simp [fn, sRet, sSeq, sSet, sIf, sNil, sDrop, u1, u2, rdv, fzv, var, cst, vl, vl2, nw, tst, tand, tor, tnot, pandE, porE, pnotE, calE, gcons, gnil, lcons, lnil, lstar, tupE, lstE, Rr.arg, Rr.look, Rr.fzn, Rr.re, Rr.sl, Re.rr, Sl.data, agS, box, ixD, at_, ixn, i2, addD, subD, plusD, isD, isnD, isNon, opt_some, bnd_ret, seqOf, wSeq, stv, Rr.stb, items, ife, inb, uns, Sl.inn, tName, tgT, tgCons, tgNil, l2]; rfl⟩⟩) (by rw [hl]; exact limB (by omega))
  have e : ((ups n).flatMap fun p => ((ups n).filter fun q => true).map fun q => prD (p, q)) = (pairs n).map prD := by
    unfold pairs
    rw [List.map_flatMap]
    congr 1
    funext p
    rw [List.filter_eq_self.mpr (fun _ _ => rfl), List.map_map]
    rfl
  rw [e] at h
  have h' : d_all_pairs_c1 [.rd (wD n es), .un, .un] = ret (.fr (.list ((pairs n).map prD))) := h
  simp only [wD] at h'
  simp [d_all_pairs, fn, sRet, sSeq, sSet, sIf, sNil, sDrop, u1, u2, rdv, fzv, var, cst, vl, vl2, nw, tst, tand, tor, tnot, pandE, porE, pnotE, calE, gcons, gnil, lcons, lnil, lstar, tupE, lstE, Rr.arg, Rr.look, Rr.fzn, Rr.re, Rr.sl, Re.rr, Sl.data, agS, box, ixD, at_, ixn, i2, addD, subD, plusD, isD, isnD, isNon, opt_some, bnd_ret, seqOf, wSeq, stv, Rr.stb, items, ife, inb, uns, Sl.inn, tName, tgT, tgCons, tgNil, wD, h']
theorem e_pairs_behind {p h : Int} (h0 : 0 ≤ h) (h1 : h < n) : d_pairs_behind [ag (wD n es), ag (.int p), ag (.int h)] = ret (.fr (.list (((goes n es h).filter fun t => !decide (t = p)).map fun t => prD (p, t)))) := by
  have h4 := e_goes_of o h0 h1
  have n5 := o.n5
  have l2 : 2 ≤ lim := limB (by omega)
  have hh := lc_map (f := D.int) (l := goes n es h) (b := fun t => !decide (t = p)) (g := fun t => prD (p, t)) (w := wSeq true (calE d_goes_of (gcons (var 0) (gcons (var 2) gnil)))) (tg := tName 3) (t := tst (u2 (vl2 neD) (var 3) (var 1))) (e := tupE (lcons (var 1) (lcons (var 3) lnil))) (vs := [3]) (ρ := [.rd (wD n es), .rd (.int p), .rd (.int h), .un])
    (by simp only [ag, wD] at h4; simp [fn, sRet, sSeq, sSet, sIf, sNil, sDrop, u1, u2, rdv, fzv, var, cst, vl, vl2, nw, tst, tand, tor, tnot, pandE, porE, pnotE, calE, gcons, gnil, lcons, lnil, lstar, tupE, lstE, Rr.arg, Rr.look, Rr.fzn, Rr.re, Rr.sl, Re.rr, Sl.data, agS, box, ixD, at_, ixn, i2, addD, subD, plusD, isD, isnD, isNon, opt_some, bnd_ret, seqOf, wSeq, stv, Rr.stb, items, ife, inb, uns, Sl.inn, tName, tgT, tgCons, tgNil, wD, h4]) (fun t ht => ⟨[.rd (wD n es), .rd (.int p), .rd (.int h), .fz (.int t)], rfl, by simp [fn, sRet, sSeq, sSet, sIf, sNil, sDrop, u1, u2, rdv, fzv, var, cst, vl, vl2, nw, tst, tand, tor, tnot, pandE, porE, pnotE, calE, gcons, gnil, lcons, lnil, lstar, tupE, lstE, Rr.arg, Rr.look, Rr.fzn, Rr.re, Rr.sl, Re.rr, Sl.data, agS, box, ixD, at_, ixn, i2, addD, subD, plusD, isD, isnD, isNon, opt_some, bnd_ret, seqOf, wSeq, stv, Rr.stb, items, ife, inb, uns, Sl.inn, tName, tgT, tgCons, tgNil], fun _ => by simp [fn, sRet, sSeq, sSet, sIf, sNil, sDrop, u1, u2, rdv, fzv, var, cst, vl, vl2, nw, tst, tand, tor, tnot, pandE, porE, pnotE, calE, gcons, gnil, lcons, lnil, lstar, tupE, lstE, Rr.arg, Rr.look, Rr.fzn, Rr.re, Rr.sl, Re.rr, Sl.data, agS, box, ixD, at_, ixn, i2, addD, subD, plusD, isD, isnD, isNon, opt_some, bnd_ret, seqOf, wSeq, stv, Rr.stb, items, ife, inb, uns, Sl.inn, tName, tgT, tgCons, tgNil, l2]; rfl⟩) (limB (by have := goes_len (n := n) (es := es) (p := h); omega))
  have h' : d_pairs_behind_c1 [.rd (wD n es), .rd (.int p), .rd (.int h), .un] = _ := hh
  simp only [wD] at h'
  simp only [d_pairs_behind, fn, sRet, sSeq, sSet, sIf, sNil, sDrop, u1, u2, rdv, fzv, var, cst, vl, vl2, nw, tst, tand, tor, tnot, pandE, porE, pnotE, calE, gcons, gnil, lcons, lnil, lstar, tupE, lstE, Rr.arg, Rr.look, Rr.fzn, Rr.re, Rr.sl, Re.rr, Sl.data, agS, box, ixD, at_, ixn, i2, addD, subD, plusD, isD, isnD, isNon, opt_some, bnd_ret, seqOf, wSeq, stv, Rr.stb, items, ife, inb, uns, Sl.inn, tName, tgT, tgCons, tgNil, wD, ag, List.length_cons, List.length_nil, List.map_cons, List.map_nil, List.cons_append, List.nil_append, List.replicate, if_true, h', bnd_ret, opt_some]
theorem e_does_close (T : Tn) {p h : Int} (h0 : 0 ≤ h) (h1 : h < n) : d_does_close [ag (wD n es), ag (.dt (tnD T)), ag (.int p), ag (.int h)] = ret (.val (.bool (dcl n es T p h))) := by
  have h4 := e_pairs_behind o (p := p) h0 h1
  have n5 := o.n5
  have gl := goes_len (n := n) (es := es) (p := h)
  have fl := List.length_filter_le (fun t => !decide (t = p)) (goes n es h)
  have hh := lc_mapY (f := fun t => prD (p, t)) (l := (goes n es h).filter fun t => !decide (t = p)) (g := fun t => D.bool (lk T (p, t)).isSome) (w := wSeq true (calE d_pairs_behind (gcons (var 0) (gcons (var 2) (gcons (var 3) gnil))))) (tg := tName 4) (e := u2 (vl2 inD) (var 4) (var 1)) (vs := [4]) (ρ := [.rd (wD n es), .rd (.dt (tnD T)), .rd (.int p), .rd (.int h), .un])
    (by simp only [ag, wD] at h4; simp [fn, sRet, sSeq, sSet, sIf, sNil, sDrop, u1, u2, rdv, fzv, var, cst, vl, vl2, nw, tst, tand, tor, tnot, pandE, porE, pnotE, calE, gcons, gnil, lcons, lnil, lstar, tupE, lstE, Rr.arg, Rr.look, Rr.fzn, Rr.re, Rr.sl, Re.rr, Sl.data, agS, box, ixD, at_, ixn, i2, addD, subD, plusD, isD, isnD, isNon, opt_some, bnd_ret, seqOf, wSeq, stv, Rr.stb, items, ife, inb, uns, Sl.inn, tName, tgT, tgCons, tgNil, wD, h4]) (fun t ht => ⟨[.rd (wD n es), .rd (.dt (tnD T)), .rd (.int p), .rd (.int h), .fz (prD (p, t))], rfl, by simp [fn, sRet, sSeq, sSet, sIf, sNil, sDrop, u1, u2, rdv, fzv, var, cst, vl, vl2, nw, tst, tand, tor, tnot, pandE, porE, pnotE, calE, gcons, gnil, lcons, lnil, lstar, tupE, lstE, Rr.arg, Rr.look, Rr.fzn, Rr.re, Rr.sl, Re.rr, Sl.data, agS, box, ixD, at_, ixn, i2, addD, subD, plusD, isD, isnD, isNon, opt_some, bnd_ret, seqOf, wSeq, stv, Rr.stb, items, ife, inb, uns, Sl.inn, tName, tgT, tgCons, tgNil]⟩) (limB (by omega))
  have h' : d_does_close_c1 [.rd (wD n es), .rd (.dt (tnD T)), .rd (.int p), .rd (.int h), .un] = _ := hh
  simp only [wD] at h'
  have h5 := all_map (fun t => (lk T (p, t)).isSome) ((goes n es h).filter fun t => !decide (t = p))
  unfold dcl
  generalize ((goes n es h).filter fun t => !decide (t = p)).all (fun t => (lk T (p, t)).isSome) = B at h5 ⊢
  generalize ((goes n es h).filter fun t => !decide (t = p)).map (fun t => D.bool (lk T (p, t)).isSome) = L at h5 h' ⊢
  by_cases e : p = h <;> simp [d_does_close, fn, sRet, sSeq, sSet, sIf, sNil, sDrop, u1, u2, rdv, fzv, var, cst, vl, vl2, nw, tst, tand, tor, tnot, pandE, porE, pnotE, calE, gcons, gnil, lcons, lnil, lstar, tupE, lstE, Rr.arg, Rr.look, Rr.fzn, Rr.re, Rr.sl, Re.rr, Sl.data, agS, box, ixD, at_, ixn, i2, addD, subD, plusD, isD, isnD, isNon, opt_some, bnd_ret, seqOf, wSeq, stv, Rr.stb, items, ife, inb, uns, Sl.inn, tName, tgT, tgCons, tgNil, wD, h', h5, e]
theorem cm_len {T : Tn} {a : Pr} : (cm n es T a).length ≤ 5 := by
  have h := goes_len (n := n) (es := es) (p := a.1)
  have := List.length_filter_le (fun t => dcl n es T t a.2) (goes n es a.1)
  have := o.n5
  unfold cm
  omega
theorem e_closing_moves (T : Tn) {a : Pr} (ha : a ∈ pairs n) : d_closing_moves [ag (wD n es), ag (.dt (tnD T)), ag (prD a)] = ret (.fr (.list ((cm n es T a).map D.int))) := by
  obtain ⟨⟨p0, p1⟩, q0, q1⟩ := mem_pairs.mp ha
  have h4 := e_goes_of o p0 p1
  have n5 := o.n5
  have hh := lc_map (f := D.int) (l := goes n es a.1) (b := fun t => dcl n es T t a.2) (g := D.int) (w := wSeq true (calE d_goes_of (gcons (var 0) (gcons (var 3) gnil)))) (tg := tName 5) (t := tst (calE d_does_close (gcons (var 0) (gcons (var 1) (gcons (var 5) (gcons (var 4) gnil)))))) (e := var 5) (vs := [5])
    (ρ := [.rd (wD n es), .rd (.dt (tnD T)), .rd (prD a), .fz (.int a.1), .fz (.int a.2), .un])
    (by simp only [ag, wD] at h4; simp [fn, sRet, sSeq, sSet, sIf, sNil, sDrop, u1, u2, rdv, fzv, var, cst, vl, vl2, nw, tst, tand, tor, tnot, pandE, porE, pnotE, calE, gcons, gnil, lcons, lnil, lstar, tupE, lstE, Rr.arg, Rr.look, Rr.fzn, Rr.re, Rr.sl, Re.rr, Sl.data, agS, box, ixD, at_, ixn, i2, addD, subD, plusD, isD, isnD, isNon, opt_some, bnd_ret, seqOf, wSeq, stv, Rr.stb, items, ife, inb, uns, Sl.inn, tName, tgT, tgCons, tgNil, wD, h4]) (fun t ht => ⟨[.rd (wD n es), .rd (.dt (tnD T)), .rd (prD a), .fz (.int a.1), .fz (.int a.2), .fz (.int t)], rfl, by have h5 := e_does_close o T (p := t) q0 q1; simp only [ag, wD] at h5; simp [fn, sRet, sSeq, sSet, sIf, sNil, sDrop, u1, u2, rdv, fzv, var, cst, vl, vl2, nw, tst, tand, tor, tnot, pandE, porE, pnotE, calE, gcons, gnil, lcons, lnil, lstar, tupE, lstE, Rr.arg, Rr.look, Rr.fzn, Rr.re, Rr.sl, Re.rr, Sl.data, agS, box, ixD, at_, ixn, i2, addD, subD, plusD, isD, isnD, isNon, opt_some, bnd_ret, seqOf, wSeq, stv, Rr.stb, items, ife, inb, uns, Sl.inn, tName, tgT, tgCons, tgNil, wD, h5], fun _ => rfl⟩) (limB (by have := goes_len (n := n) (es := es) (p := a.1); omega))
  have h' : d_closing_moves_c1 [.rd (wD n es), .rd (.dt (tnD T)), .rd (prD a), .fz (.int a.1), .fz (.int a.2), .un] = ret (.fr (.list ((cm n es T a).map D.int))) := hh
  generalize (cm n es T a).map D.int = L at h' ⊢
  simp only [wD, prD] at h'
  simp [d_closing_moves, sAsg, fn, sRet, sSeq, sSet, sIf, sNil, sDrop, u1, u2, rdv, fzv, var, cst, vl, vl2, nw, tst, tand, tor, tnot, pandE, porE, pnotE, calE, gcons, gnil, lcons, lnil, lstar, tupE, lstE, Rr.arg, Rr.look, Rr.fzn, Rr.re, Rr.sl, Re.rr, Sl.data, agS, box, ixD, at_, ixn, i2, addD, subD, plusD, isD, isnD, isNon, opt_some, bnd_ret, seqOf, wSeq, stv, Rr.stb, items, ife, inb, uns, Sl.inn, tName, tgT, tgCons, tgNil, wD, prD, h']
theorem e_pairs_closed (T : Tn) : d_pairs_closed [ag (wD n es), ag (.dt (tnD T))] = ret (.fr (.list ((fresh n es T).map prD))) := by
  have h4 := e_all_pairs o
  have s := sq o
  have pl := pairs_len n
  have hh := lc_map (f := prD) (l := pairs n) (b := fun a => !(lk T a).isSome && !(cm n es T a).isEmpty) (g := prD) (w := wSeq true (calE d_all_pairs (gcons (var 0) gnil))) (tg := tName 2) (t := tand (tst (u2 (vl2 ninD) (var 2) (var 1))) (tst (u2 (vl2 neD) (calE d_closing_moves (gcons (var 0) (gcons (var 1) (gcons (var 2) gnil)))) (lstE lnil)))) (e := var 2) (vs := [2])
    (ρ := [.rd (wD n es), .rd (.dt (tnD T)), .un])
    (by simp only [ag, wD] at h4; simp [fn, sRet, sSeq, sSet, sIf, sNil, sDrop, u1, u2, rdv, fzv, var, cst, vl, vl2, nw, tst, tand, tor, tnot, pandE, porE, pnotE, calE, gcons, gnil, lcons, lnil, lstar, tupE, lstE, Rr.arg, Rr.look, Rr.fzn, Rr.re, Rr.sl, Re.rr, Sl.data, agS, box, ixD, at_, ixn, i2, addD, subD, plusD, isD, isnD, isNon, opt_some, bnd_ret, seqOf, wSeq, stv, Rr.stb, items, ife, inb, uns, Sl.inn, tName, tgT, tgCons, tgNil, wD, h4]) (fun a ha => ⟨[.rd (wD n es), .rd (.dt (tnD T)), .fz (prD a)], rfl, ?_, fun _ => rfl⟩) (by rw [pl]; exact limB (by omega))
  · have h' : d_pairs_closed_c1 [.rd (wD n es), .rd (.dt (tnD T)), .un] = ret (.fr (.list ((fresh n es T).map prD))) := hh
    generalize (fresh n es T).map prD = L at h' ⊢
    simp only [wD] at h'
    simp [d_pairs_closed, fn, sRet, sSeq, sSet, sIf, sNil, sDrop, u1, u2, rdv, fzv, var, cst, vl, vl2, nw, tst, tand, tor, tnot, pandE, porE, pnotE, calE, gcons, gnil, lcons, lnil, lstar, tupE, lstE, Rr.arg, Rr.look, Rr.fzn, Rr.re, Rr.sl, Re.rr, Sl.data, agS, box, ixD, at_, ixn, i2, addD, subD, plusD, isD, isnD, isNon, opt_some, bnd_ret, seqOf, wSeq, stv, Rr.stb, items, ife, inb, uns, Sl.inn, tName, tgT, tgCons, tgNil, wD, h']
  · have h5 := e_closing_moves o T ha
    have h6 := neD_nil (shp_ints1 (cm n es T a))
    have e : ((cm n es T a).map D.int).isEmpty = (cm n es T a).isEmpty := by cases cm n es T a <;> rfl
    rw [e] at h6
    simp only [ag, wD] at h5
    generalize (cm n es T a).map D.int = L at h5 h6
    cases h : (lk T a).isSome <;> simp [fn, sRet, sSeq, sSet, sIf, sNil, sDrop, u1, u2, rdv, fzv, var, cst, vl, vl2, nw, tst, tand, tor, tnot, pandE, porE, pnotE, calE, gcons, gnil, lcons, lnil, lstar, tupE, lstE, Rr.arg, Rr.look, Rr.fzn, Rr.re, Rr.sl, Re.rr, Sl.data, agS, box, ixD, at_, ixn, i2, addD, subD, plusD, isD, isnD, isNon, opt_some, bnd_ret, seqOf, wSeq, stv, Rr.stb, items, ife, inb, uns, Sl.inn, tName, tgT, tgCons, tgNil, wD, h5, h6, h]
/-- the state of the loop that tells the turns -/
def tR (n : Nat) (es : List Pr) (T : Tn) (a b c : Sl) : Rho := [.rd (wD n es), .own (.dt (tnD T)), a, b, c, .un, .un]
theorem putAll_tn : ∀ {S T : Tn}, (T.map (·.1) ++ S.map (·.1)).Nodup → putAll (tnD T) (tnD S) = tnD (T ++ S)
  | [], T, _ => by simp [tnD, putAll]
  | (a, v) :: S, T, h => by
    have hn : lk T a = none := by
      rw [lk_none]
      intro hm
      exact (List.nodup_append.mp h).2.2 _ hm _ List.mem_cons_self rfl
    show putAll (putL (tnD T) (kyP a) (.int v)) (tnD S) = _
    rw [putL_tn hn, putAll_tn (T := T ++ [(a, v)]) (by simpa using h)]
    simp
theorem fresh_sub {T : Tn} {a : Pr} (h : a ∈ fresh n es T) : a ∈ pairs n ∧ lk T a = none ∧ cm n es T a ≠ [] := by
  unfold fresh at h
  obtain ⟨h1, h2⟩ := List.mem_filter.mp h
  rw [Bool.and_eq_true] at h2
  refine ⟨h1, ?_, fun e => ?_⟩
  · cases q : lk T a with
    | none => rfl
    | some v => rw [q] at h2; simp at h2
  · rw [e] at h2; simp at h2
theorem turns_b1 {T : Tn} {i : Int} {a b c : Sl} (nd : (T.map (·.1)).Nodup) (hT : T ≠ []) (hl : T.length ≤ 25) :
    d_turns_of_b1 (tR n es T (.fz (.int i)) b c) = if (fresh n es T).isEmpty = true then ret (.rt (.fr (.dt (tnD T)))) else ret (.nx (tR n es (T ++ (fresh n es T).map fun a => (a, i)) (.fz (.int i)) b (.own (.list ((fresh n es T).map prD))))) := by
  have s := sq o
  have pl := pairs_len n
  have fl : (fresh n es T).length ≤ 25 := by
    have := List.length_filter_le (fun a => !(lk T a).isSome && !(cm n es T a).isEmpty) (pairs n)
    unfold fresh; omega
  have h1 := e_pairs_closed o T
  simp only [ag] at h1
  have h2 : sSet 4 (calE d_pairs_closed (gcons (var 0) (gcons (var 1) gnil))) (tR n es T (.fz (.int i)) b c) = ret (.nx (tR n es T (.fz (.int i)) b (.own (.list ((fresh n es T).map prD))))) := by
    generalize (fresh n es T).map prD = L at h1 ⊢
    simp only [wD] at h1
    simp [fn, sRet, sSeq, sSet, sIf, sNil, sDrop, u1, u2, rdv, fzv, var, cst, vl, vl2, nw, tst, tand, tor, tnot, pandE, porE, pnotE, calE, gcons, gnil, lcons, lnil, lstar, tupE, lstE, Rr.arg, Rr.look, Rr.fzn, Rr.re, Rr.sl, Re.rr, Sl.data, agS, box, ixD, at_, ixn, i2, addD, subD, plusD, isD, isnD, isNon, opt_some, bnd_ret, seqOf, wSeq, stv, Rr.stb, items, ife, inb, uns, Sl.inn, tName, tgT, tgCons, tgNil, tR, wD, h1]
  have h3 : tst (u2 (vl2 eqD) (var 4) (lstE lnil)) (tR n es T (.fz (.int i)) b (.own (.list ((fresh n es T).map prD)))) = ret (fresh n es T).isEmpty := by
    have h6 := eqD_nil (shp_prs1 (fresh n es T))
    have e : ((fresh n es T).map prD).isEmpty = (fresh n es T).isEmpty := by cases fresh n es T <;> rfl
    rw [e] at h6
    generalize (fresh n es T).map prD = L at h6 ⊢
    simp [fn, sRet, sSeq, sSet, sIf, sNil, sDrop, u1, u2, rdv, fzv, var, cst, vl, vl2, nw, tst, tand, tor, tnot, pandE, porE, pnotE, calE, gcons, gnil, lcons, lnil, lstar, tupE, lstE, Rr.arg, Rr.look, Rr.fzn, Rr.re, Rr.sl, Re.rr, Sl.data, agS, box, ixD, at_, ixn, i2, addD, subD, plusD, isD, isnD, isNon, opt_some, bnd_ret, seqOf, wSeq, stv, Rr.stb, items, ife, inb, uns, Sl.inn, tName, tgT, tgCons, tgNil, tR, h6]
  unfold d_turns_of_b1 sSeq
  simp only [h2, bnd_ret, sIf, h3]
  by_cases c : (fresh n es T).isEmpty = true
  · rw [if_pos c, if_pos c]
    rfl
  · rw [if_neg c, if_neg c]
    have fnd : (fresh n es T).Nodup := (pairs_nodup n).filter _
    have dis : (T.map (·.1) ++ (fresh n es T)).Nodup := by
      rw [List.nodup_append]
      refine ⟨nd, fnd, fun x hx y hy e => ?_⟩
      subst e
      exact lk_none.mp (fresh_sub o hy).2.1 hx
    have h4 : d_turns_of_c2 (tR n es T (.fz (.int i)) b (.own (.list ((fresh n es T).map prD)))) = ret (.fr (.dt (tnD ((fresh n es T).map fun a => (a, i))))) := by
      have g := wGo_kd (f := prD) (kf := fun a => a) (vf := fun _ => i) (b := fun _ => true) (tg := tName 6) (tt := yes) (ek := var 6) (ev := var 2) (ρ := inb [6] (tR n es T (.fz (.int i)) b (.own (.list ((fresh n es T).map prD))))) (fresh n es T) []
        (fun a ha => ⟨(inb [6] (tR n es T (.fz (.int i)) b (.own (.list ((fresh n es T).map prD))))).set 6 (.fz (prD a)), rfl, rfl, fun _ => ⟨rfl, rfl⟩⟩) (by rw [List.filter_eq_self.mpr (fun _ _ => rfl)]; simpa using fnd) (by rw [List.length_nil]; exact limB (by omega))
      rw [List.filter_eq_self.mpr (fun _ _ => rfl)] at g
      show bnd (wGo (tName 6) (kd yes (var 6) (var 2)) (inb [6] (tR n es T (.fz (.int i)) b (.own (.list ((fresh n es T).map prD))))) ((fresh n es T).map prD) (D.dt (tnD []))) (fun o => ret (Rr.fr o)) = _
      rw [g]
      rfl
    have h5 : updA (.dt (tnD T)) (.dt (tnD ((fresh n es T).map fun a => (a, i)))) = some (.dt (tnD (T ++ (fresh n es T).map fun a => (a, i)))) := by
      show (if tnD T ≠ [] ∧ (tnD T).length + (tnD ((fresh n es T).map fun a => (a, i))).length ≤ lim then some (D.dt (putAll (tnD T) (tnD ((fresh n es T).map fun a => (a, i))))) else none) = _
      have e1 : tnD T ≠ [] := fun z => hT (List.map_eq_nil_iff.mp z)
      have e2 : (tnD T).length + (tnD ((fresh n es T).map fun a => (a, i))).length ≤ lim := by
        unfold tnD
        rw [List.length_map, List.length_map, List.length_map]
        exact limB (by omega)
      rw [if_pos ⟨e1, e2⟩, putAll_tn o (by rw [List.map_map]; simpa [Function.comp_def] using dis)]
    show bnd (d_turns_of_c2 (tR n es T (.fz (.int i)) b (.own (.list ((fresh n es T).map prD))))) _ = _
    rw [h4]
    show bnd (opt (updA (.dt (tnD T)) (.dt (tnD ((fresh n es T).map fun a => (a, i)))))) _ = _
    rw [h5]
    rfl
theorem pigeon {T : Tn} (nd : (T.map (·.1)).Nodup) (sub : ∀ x ∈ T.map (·.1), x ∈ pairs n) (h : (pairs n).length ≤ T.length) : ∀ a ∈ pairs n, a ∈ T.map (·.1) := by
  intro a ha
  apply Classical.byContradiction
  intro hn
  have := len_sub (l := a :: T.map (·.1)) (m := pairs n) (List.nodup_cons.mpr ⟨hn, nd⟩) fun x hx => by
    rcases List.mem_cons.mp hx with e | e
    · rw [e]; exact ha
    · exact sub x e
  rw [List.length_cons, List.length_map] at this
  omega
theorem ext_ok {T : Tn} {i : Int} (nd : (T.map (·.1)).Nodup) (sub : ∀ x ∈ T.map (·.1), x ∈ pairs n) : (((T ++ (fresh n es T).map fun a => (a, i))).map (·.1)).Nodup ∧ ∀ x ∈ (T ++ (fresh n es T).map fun a => (a, i)).map (·.1), x ∈ pairs n := by
  have e : ((fresh n es T).map fun a => (a, i)).map (·.1) = fresh n es T := by simp [Function.comp_def]
  rw [List.map_append, e]
  constructor
  · rw [List.nodup_append]
    refine ⟨nd, (pairs_nodup n).filter _, fun x hx y hy e => ?_⟩
    subst e
    exact lk_none.mp (fresh_sub o hy).2.1 hx
  · intro x hx
    rcases List.mem_append.mp hx with h | h
    · exact sub x h
    · exact (fresh_sub o h).1
theorem turns_l1 : ∀ (l : List Pr) (i : Int) (T : Tn) (a b c : Sl), (T.map (·.1)).Nodup → (∀ x ∈ T.map (·.1), x ∈ pairs n) → T ≠ [] →
    ∃ out : Fl, forGo (tgT (tgCons (tName 2) (tgCons (tName 3) tgNil))) d_turns_of_b1 (enumD i (l.map prD)) (tR n es T a b c) = PV.ret out ∧
      (out = .rt (.fr (.dt (tnD (rounds n es l.length i T)))) ∨ ∃ a' b' c', out = .nx (tR n es (rounds n es l.length i T) a' b' c'))
  | [], i, T, a, b, c, _, _, _ => ⟨_, rfl, .inr ⟨a, b, c, rfl⟩⟩
  | x :: l, i, T, a, b, c, nd, sub, hT => by
    have s := sq o
    have pl := pairs_len n
    have hl : T.length ≤ 25 := by
      have := len_sub nd sub
      rw [List.length_map] at this
      omega
    have hb := turns_b1 o (i := i) (a := a) (b := .fz (prD x)) (c := c) nd hT hl
    have go : forGo (tgT (tgCons (tName 2) (tgCons (tName 3) tgNil))) d_turns_of_b1 (enumD i ((x :: l).map prD)) (tR n es T a b c) = bnd (d_turns_of_b1 (tR n es T (.fz (.int i)) (.fz (prD x)) c)) fun f => match f with
      | .nx ρ' => forGo (tgT (tgCons (tName 2) (tgCons (tName 3) tgNil))) d_turns_of_b1 (enumD (i + 1) (l.map prD)) ρ'
      | .ct ρ' => forGo (tgT (tgCons (tName 2) (tgCons (tName 3) tgNil))) d_turns_of_b1 (enumD (i + 1) (l.map prD)) ρ'
      | .bk ρ' => ret (.nx ρ')
      | .rt r => ret (.rt r) := rfl
    rw [go, hb]
    by_cases e : (fresh n es T).isEmpty = true
    · rw [if_pos e]
      refine ⟨_, rfl, .inl ?_⟩
      rw [List.length_cons]
      unfold rounds
      rw [if_pos e]
    · rw [if_neg e]
      obtain ⟨nd2, sub2⟩ := ext_ok o (i := i) nd sub
      obtain ⟨out, h1, h2⟩ := turns_l1 l (i + 1) (T ++ (fresh n es T).map fun a => (a, i)) (.fz (.int i)) (.fz (prD x)) (.own (.list ((fresh n es T).map prD))) nd2 sub2 (by intro z; rw [List.append_eq_nil_iff] at z; exact hT z.1)
      refine ⟨out, h1, ?_⟩
      rw [List.length_cons]
      unfold rounds
      rw [if_neg e]
      exact h2
theorem diag_ok : ((diag n).map (·.1)).Nodup ∧ (∀ x ∈ (diag n).map (·.1), x ∈ pairs n) ∧ diag n ≠ [] := by
  have n3 := o.n3
  have e : (diag n).map (·.1) = (ups n).map fun p => (p, p) := by unfold diag; rw [List.map_map]; rfl
  rw [e]
  refine ⟨?_, fun x hx => ?_, fun z => ?_⟩
  · unfold List.Nodup
    rw [List.pairwise_map]
    exact (ups_asc n).imp fun h e => by have := congrArg Prod.fst e; simp only at this; omega
  · obtain ⟨p, hp, rfl⟩ := List.mem_map.mp hx
    have := mem_ups.mp hp
    exact mem_pairs.mpr ⟨this, this⟩
  · have := congrArg List.length z
    unfold diag at this
    rw [List.length_map, ups_len] at this
    simp at this
    omega
theorem e_turns_of : d_turns_of [ag (wD n es)] = ret (.fr (.dt (tnD (turnsT n es)))) := by
  have n5 := o.n5
  have h4 := e_places_of o
  have h5 := e_all_pairs o
  have hl := ups_len n
  obtain ⟨d1, d2, d3⟩ := diag_ok o
  have l2 : 2 ≤ lim := limB (by omega)
  have h1 : d_turns_of_c1 [.rd (wD n es), .un, .un, .un, .un, .un, .un] = ret (.fr (.dt (tnD (diag n)))) := by
    have g := wGo_kd (f := D.int) (kf := fun p : Int => (p, p)) (vf := fun _ => 0) (b := fun _ => true) (tg := tName 5) (tt := yes) (ek := tupE (lcons (var 5) (lcons (var 5) lnil))) (ev := cst (.int 0)) (ρ := [.rd (wD n es), .un, .un, .un, .un, .un, .un]) (ups n) []
      (fun p hp => ⟨[.rd (wD n es), .un, .un, .un, .un, .fz (.int p), .un], rfl, rfl, fun _ => ⟨by simp [fn, sRet, sSeq, sSet, sIf, sNil, sDrop, u1, u2, rdv, fzv, var, cst, vl, vl2, nw, tst, tand, tor, tnot, pandE, porE, pnotE, calE, gcons, gnil, lcons, lnil, lstar, tupE, lstE, Rr.arg, Rr.look, Rr.fzn, Rr.re, Rr.sl, Re.rr, Sl.data, agS, box, ixD, at_, ixn, i2, addD, subD, plusD, isD, isnD, isNon, opt_some, bnd_ret, seqOf, wSeq, stv, Rr.stb, items, ife, inb, uns, Sl.inn, tName, tgT, tgCons, tgNil, l2]; rfl, rfl⟩⟩) (by
        rw [List.filter_eq_self.mpr (fun _ _ => rfl)]
        have e : (diag n).map (·.1) = (ups n).map fun p => (p, p) := by unfold diag; rw [List.map_map]; rfl
        rw [e] at d1
        simpa using d1) (by rw [hl, List.length_nil]; exact limB (by omega))
    rw [List.filter_eq_self.mpr (fun _ _ => rfl)] at g
    have hw : wSeq true (calE d_places_of (gcons (var 0) gnil)) [.rd (wD n es), .un, .un, .un, .un, .un, .un] = ret ((ups n).map D.int) := by
      simp only [ag, wD] at h4; simp [fn, sRet, sSeq, sSet, sIf, sNil, sDrop, u1, u2, rdv, fzv, var, cst, vl, vl2, nw, tst, tand, tor, tnot, pandE, porE, pnotE, calE, gcons, gnil, lcons, lnil, lstar, tupE, lstE, Rr.arg, Rr.look, Rr.fzn, Rr.re, Rr.sl, Re.rr, Sl.data, agS, box, ixD, at_, ixn, i2, addD, subD, plusD, isD, isnD, isNon, opt_some, bnd_ret, seqOf, wSeq, stv, Rr.stb, items, ife, inb, uns, Sl.inn, tName, tgT, tgCons, tgNil, wD, h4]
    unfold d_turns_of_c1 dcE
    rw [hw]
    show bnd (wGo (tName 5) (kd yes (tupE (lcons (var 5) (lcons (var 5) lnil))) (cst (.int 0))) [.rd (wD n es), .un, .un, .un, .un, .un, .un] ((ups n).map D.int) (D.dt (tnD []))) (fun o => ret (Rr.fr o)) = _
    rw [g]
    rfl
  obtain ⟨out, g1, g2⟩ := turns_l1 o (pairs n) 1 (diag n) .un .un .un d1 d2 d3
  have hw : wEnum false (calE d_all_pairs (gcons (var 0) gnil)) (cst (.int 1)) (tR n es (diag n) .un .un .un) = ret (enumD 1 ((pairs n).map prD)) := by
    have ok : okRng 1 0 = true := by decide
    simp only [ag] at h5
    generalize (pairs n).map prD = L at h5 ⊢
    simp only [wD] at h5
    simp [wEnum, fn, sRet, sSeq, sSet, sIf, sNil, sDrop, u1, u2, rdv, fzv, var, cst, vl, vl2, nw, tst, tand, tor, tnot, pandE, porE, pnotE, calE, gcons, gnil, lcons, lnil, lstar, tupE, lstE, Rr.arg, Rr.look, Rr.fzn, Rr.re, Rr.sl, Re.rr, Sl.data, agS, box, ixD, at_, ixn, i2, addD, subD, plusD, isD, isnD, isNon, opt_some, bnd_ret, seqOf, wSeq, stv, Rr.stb, items, ife, inb, uns, Sl.inn, tName, tgT, tgCons, tgNil, tR, wD, h5, ok]
  have h2 : d_turns_of_l1 (tR n es (diag n) .un .un .un) = ret out := by
    unfold d_turns_of_l1 sFor
    rw [hw]
    exact g1
  have h3 : sSet 1 d_turns_of_c1 [.rd (wD n es), .un, .un, .un, .un, .un, .un] = ret (.nx (tR n es (diag n) .un .un .un)) := by
    unfold sSet
    rw [h1]
    rfl
  simp only [d_turns_of, fn, List.length_cons, List.length_nil, List.map_cons, List.map_nil, agS, List.cons_append, List.nil_append, List.replicate, sSeq, if_true, ag]
  rw [h3]
  simp only [bnd_ret, h2]
  rcases g2 with e | ⟨a', b', c', e⟩
  · subst e; rfl
  · subst e; rfl
end
end HK

set_option Elab.async false
set_option linter.all false
set_option maxRecDepth 100000
/-! M52c: what the turns are. -/
namespace HK
open PySem PV
/-- the hunter at t has the hare at h, or all its steps lead to a turn below v -/
def clv (n : Nat) (es : List Pr) (T : Tn) (v : Int) (t h : Int) : Prop := t = h ∨ ∀ u ∈ goes n es h, u ≠ t → ∃ w, lk T (t, u) = some w ∧ w < v
theorem lk_fr (S : List Pr) (i : Int) (a : Pr) : lk (S.map fun a => (a, i)) a = if a ∈ S then some i else none := by
  unfold lk
  induction S with
  | nil => rfl
  | cons x S ih =>
    rw [List.map_cons, List.find?_cons]
    by_cases h : x = a
    · subst h; simp
    · have h2 : a ≠ x := fun z => h z.symm
      simp only [h, decide_false]
      rw [ih]
      by_cases c : a ∈ S
      · rw [if_pos c, if_pos (List.mem_cons_of_mem _ c)]
      · rw [if_neg c, if_neg (by simp [h2, c])]
theorem dcl_iff {n : Nat} {es : List Pr} {T : Tn} {i : Int} (vb : ∀ a v, lk T a = some v → v < i) (t h : Int) : dcl n es T t h = true ↔ clv n es T i t h := by
  unfold dcl clv
  rw [Bool.or_eq_true, decide_eq_true_iff, List.all_eq_true]
  constructor
  · rintro (e | e)
    · exact .inl e
    · refine .inr fun u hu hne => ?_
      have := e u (List.mem_filter.mpr ⟨hu, by simp [hne]⟩)
      cases q : lk T (t, u) with
      | none => rw [q] at this; cases this
      | some w => exact ⟨w, rfl, vb _ w q⟩
  · rintro (e | e)
    · exact .inl e
    · refine .inr fun u hu => ?_
      obtain ⟨h1, h2⟩ := List.mem_filter.mp hu
      obtain ⟨w, hw, _⟩ := e u h1 (by simpa using h2)
      rw [hw]; rfl
theorem cm_ne {n : Nat} {es : List Pr} {T : Tn} {a : Pr} : cm n es T a ≠ [] ↔ ∃ t ∈ goes n es a.1, dcl n es T t a.2 = true := by
  unfold cm
  constructor
  · intro h
    obtain ⟨t, ht⟩ := List.exists_mem_of_ne_nil _ h
    obtain ⟨h1, h2⟩ := List.mem_filter.mp ht
    exact ⟨t, h1, h2⟩
  · rintro ⟨t, h1, h2⟩ e
    have : t ∈ (goes n es a.1).filter fun t => dcl n es T t a.2 := List.mem_filter.mpr ⟨h1, h2⟩
    rw [e] at this
    cases this
structure RI (n : Nat) (es : List Pr) (i : Int) (T : Tn) : Prop where
  i1 : 1 ≤ i
  nd : (T.map (·.1)).Nodup
  sub : ∀ x ∈ T.map (·.1), x ∈ pairs n
  d0 : ∀ p : Int, 0 ≤ p → p < n → lk T (p, p) = some 0
  z : ∀ a, lk T a = some 0 → a.1 = a.2
  vb : ∀ a v, lk T a = some v → 0 ≤ v ∧ v < i
  P1 : ∀ a v, lk T a = some v → 1 ≤ v → ∃ t ∈ goes n es a.1, clv n es T v t a.2
  P2 : ∀ a v, lk T a = some v → 2 ≤ v → ∀ t ∈ goes n es a.1, ¬ clv n es T (v - 1) t a.2
  C : 2 ≤ i → ∀ a ∈ pairs n, lk T a = none → ∀ t ∈ goes n es a.1, ¬ clv n es T (i - 1) t a.2
  ln : (n : Int) + (i - 1) ≤ T.length
section
variable {n : Nat} {es : List Pr} (o : OkW n es)
include o
theorem ri_start : RI n es 1 (diag n) := by
  obtain ⟨d1, d2, d3⟩ := diag_ok o
  have e : diag n = ((ups n).map fun p => ((p, p) : Pr)).map fun a => (a, (0 : Int)) := by unfold diag; rw [List.map_map]; rfl
  have lkd : ∀ a, lk (diag n) a = if a ∈ (ups n).map (fun p => ((p, p) : Pr)) then some 0 else none := fun a => by rw [e, lk_fr]
  have val : ∀ a v, lk (diag n) a = some v → v = 0 := fun a v h => by
    rw [lkd] at h
    split at h
    · cases h; rfl
    · cases h
  refine ⟨Int.le_refl 1, d1, d2, fun p h0 h1 => ?_, fun a h => ?_, fun a v h => ?_, fun a v h h1 => ?_, fun a v h h2 => ?_, fun h => by omega, ?_⟩
  · rw [lkd, if_pos (List.mem_map.mpr ⟨p, mem_ups.mpr ⟨h0, h1⟩, rfl⟩)]
  · rw [lkd] at h
    split at h
    · rename_i hm
      obtain ⟨p, _, rfl⟩ := List.mem_map.mp hm
      rfl
    · cases h
  · have := val a v h; omega
  · have := val a v h; omega
  · have := val a v h; omega
  · unfold diag; rw [List.length_map, ups_len]; omega
theorem ri_step {i : Int} {T : Tn} (I : RI n es i T) (hf : fresh n es T ≠ []) : RI n es (i + 1) (T ++ (fresh n es T).map fun a => (a, i)) := by
  obtain ⟨nd2, sub2⟩ := ext_ok o (i := i) I.nd I.sub
  have i1 := I.i1
  have lkT : ∀ a, lk (T ++ (fresh n es T).map fun a => (a, i)) a = (lk T a).or (if a ∈ fresh n es T then some i else none) := fun a => by rw [lk_append, lk_fr]
  have old : ∀ a v, lk T a = some v → lk (T ++ (fresh n es T).map fun a => (a, i)) a = some v := fun a v h => by rw [lkT, h]; rfl
  have spl : ∀ a v, lk (T ++ (fresh n es T).map fun a => (a, i)) a = some v → lk T a = some v ∨ (a ∈ fresh n es T ∧ v = i) := fun a v h => by
    rw [lkT] at h
    cases q : lk T a with
    | some w => rw [q] at h; exact .inl h
    | none =>
      rw [q] at h
      by_cases c : a ∈ fresh n es T
      · rw [if_pos c] at h; exact .inr ⟨c, (Option.some.inj h).symm⟩
      · rw [if_neg c] at h; cases h
  have st : ∀ v t h, v ≤ i → (clv n es (T ++ (fresh n es T).map fun a => (a, i)) v t h ↔ clv n es T v t h) := fun v t h hv => by
    unfold clv
    constructor
    · rintro (e | e)
      · exact .inl e
      · refine .inr fun u hu hne => ?_
        obtain ⟨w, h1, h2⟩ := e u hu hne
        rcases spl _ w h1 with q | ⟨_, q⟩
        · exact ⟨w, q, h2⟩
        · omega
    · rintro (e | e)
      · exact .inl e
      · refine .inr fun u hu hne => ?_
        obtain ⟨w, h1, h2⟩ := e u hu hne
        exact ⟨w, old _ w h1, h2⟩
  refine ⟨by omega, nd2, sub2, fun p h0 h1 => old _ _ (I.d0 p h0 h1), fun a h => ?_, fun a v h => ?_, fun a v h h1 => ?_, fun a v h h2 t ht => ?_, fun _ a ha hn t ht hc => ?_, ?_⟩
  · rcases spl a 0 h with q | ⟨_, q⟩
    · exact I.z a q
    · omega
  · rcases spl a v h with q | ⟨_, q⟩
    · have := I.vb a v q; omega
    · omega
  · rcases spl a v h with q | ⟨hm, q⟩
    · obtain ⟨t, ht, hc⟩ := I.P1 a v q h1
      have := I.vb a v q
      exact ⟨t, ht, (st v t a.2 (by omega)).mpr hc⟩
    · subst q
      obtain ⟨t, ht, hc⟩ := cm_ne.mp (fresh_sub o hm).2.2
      exact ⟨t, ht, (st v t a.2 (Int.le_refl _)).mpr ((dcl_iff (fun a w hw => (I.vb a w hw).2) t a.2).mp hc)⟩
  · rcases spl a v h with q | ⟨hm, q⟩
    · have := I.vb a v q
      rw [st (v - 1) t a.2 (by omega)]
      exact I.P2 a v q h2 t ht
    · subst q
      rw [st (v - 1) t a.2 (by omega)]
      obtain ⟨f1, f2, _⟩ := fresh_sub o hm
      exact I.C h2 a f1 f2 t ht
  · have e : (i + 1 - 1 : Int) = i := by omega
    rw [e, st i t a.2 (Int.le_refl _)] at hc
    have hTn : lk T a = none := by
      cases q : lk T a with
      | none => rfl
      | some w => rw [old a w q] at hn; cases hn
    have hnf : a ∉ fresh n es T := fun hm => by
      rw [lkT, hTn, if_pos hm] at hn; cases hn
    apply hnf
    unfold fresh
    refine List.mem_filter.mpr ⟨ha, ?_⟩
    rw [hTn]
    have : cm n es T a ≠ [] := cm_ne.mpr ⟨t, ht, (dcl_iff (fun a w hw => (I.vb a w hw).2) t a.2).mpr hc⟩
    simp [this]
  · have := I.ln
    have : 0 < (fresh n es T).length := List.length_pos_iff.mpr hf
    rw [List.length_append, List.length_map]
    omega
theorem ri_rounds : ∀ (k : Nat) (i : Int) (T : Tn), RI n es i T → (pairs n).length ≤ T.length + k → ∃ j, RI n es j (rounds n es k i T) ∧ fresh n es (rounds n es k i T) = []
  | 0, i, T, I, h => by
    refine ⟨i, I, ?_⟩
    have all := pigeon o I.nd I.sub (by omega)
    show fresh n es T = []
    apply List.eq_nil_iff_forall_not_mem.mpr
    intro a ha
    obtain ⟨h1, h2, _⟩ := fresh_sub o ha
    exact lk_none.mp h2 (all a h1)
  | k + 1, i, T, I, h => by
    unfold rounds
    by_cases c : (fresh n es T).isEmpty = true
    · rw [if_pos c]
      exact ⟨i, I, List.isEmpty_iff.mp c⟩
    · rw [if_neg c]
      have hne : fresh n es T ≠ [] := fun e => c (List.isEmpty_iff.mpr e)
      refine ri_rounds k (i + 1) _ (ri_step o I hne) ?_
      have : 0 < (fresh n es T).length := List.length_pos_iff.mpr hne
      rw [List.length_append, List.length_map]
      omega
/-- what is known of the turns -/
structure TF (n : Nat) (es : List Pr) (T : Tn) : Prop where
  nd : (T.map (·.1)).Nodup
  sub : ∀ x ∈ T.map (·.1), x ∈ pairs n
  d0 : ∀ p : Int, 0 ≤ p → p < n → lk T (p, p) = some 0
  z : ∀ a, lk T a = some 0 → a.1 = a.2
  vb : ∀ a v, lk T a = some v → 0 ≤ v ∧ v ≤ 20
  P1 : ∀ a v, lk T a = some v → 1 ≤ v → ∃ t ∈ goes n es a.1, clv n es T v t a.2
  P2 : ∀ a v, lk T a = some v → 2 ≤ v → ∀ t ∈ goes n es a.1, ¬ clv n es T (v - 1) t a.2
  P3 : ∀ a ∈ pairs n, lk T a = none → ∀ t ∈ goes n es a.1, dcl n es T t a.2 = false
theorem turns_tf : TF n es (turnsT n es) := by
  have n3 := o.n3
  obtain ⟨j, I, hf⟩ := ri_rounds o (pairs n).length 1 (diag n) (ri_start o) (by omega)
  refine ⟨I.nd, I.sub, I.d0, I.z, fun a v h => ?_, I.P1, I.P2, fun a ha hn t ht => ?_⟩
  · obtain ⟨h1, h2⟩ := I.vb a v h
    have l1 := len_sub I.nd I.sub
    have l2 := I.ln
    have pl := pairs_len n
    have n5 := o.n5
    have hn : n = 3 ∨ n = 4 ∨ n = 5 := by omega
    have l3 : (rounds n es (pairs n).length 1 (diag n)).length ≤ (pairs n).length := by rw [List.length_map] at l1; exact l1
    generalize (rounds n es (pairs n).length 1 (diag n)).length = L at l2 l3
    rw [pl] at l3
    refine ⟨h1, ?_⟩
    rcases hn with e | e | e <;> rw [e] at l2 l3 <;> omega
  · cases q : dcl n es (turnsT n es) t a.2 with
    | false => rfl
    | true =>
      have : a ∈ fresh n es (turnsT n es) := by
        unfold fresh
        refine List.mem_filter.mpr ⟨ha, ?_⟩
        rw [hn]
        have : cm n es (turnsT n es) a ≠ [] := cm_ne.mpr ⟨t, ht, q⟩
        simp [this]
      have hf' : fresh n es (turnsT n es) = [] := hf
      rw [hf'] at this
      cases this
end
end HK

set_option Elab.async false
set_option linter.all false
set_option maxRecDepth 100000
/-! M52d: free pairs, moves. -/
namespace HK
open PySem PV
def freeL (n : Nat) (es : List Pr) : List Pr := (pairs n).filter fun a => !(lk (turnsT n es) a).isSome
theorem mem_free {n : Nat} {es : List Pr} {a : Pr} : a ∈ freeL n es ↔ a ∈ pairs n ∧ lk (turnsT n es) a = none := by
  unfold freeL
  rw [List.mem_filter]
  constructor
  · rintro ⟨h1, h2⟩
    refine ⟨h1, ?_⟩
    cases q : lk (turnsT n es) a with
    | none => rfl
    | some v => rw [q] at h2; cases h2
  · rintro ⟨h1, h2⟩
    exact ⟨h1, by rw [h2]; rfl⟩
theorem lk_mem {T : Tn} (nd : (T.map (·.1)).Nodup) {a : Pr} {v : Int} : lk T a = some v ↔ (a, v) ∈ T := by
  induction T with
  | nil => simp [lk]
  | cons q T ih =>
    rw [List.map_cons] at nd
    obtain ⟨h1, h2⟩ := List.nodup_cons.mp nd
    have ih := ih h2
    unfold lk at ih ⊢
    rw [List.find?_cons]
    by_cases e : q.1 = a
    · simp only [e, decide_true, Option.map_some]
      constructor
      · intro h
        have : q = (a, v) := Prod.ext e (Option.some.inj h)
        rw [this]; exact List.mem_cons_self
      · intro h
        rcases List.mem_cons.mp h with h | h
        · rw [← h]
        · exact absurd (List.mem_map.mpr ⟨(a, v), h, e.symm ▸ rfl⟩) h1
    · simp only [e, decide_false]
      rw [ih]
      constructor
      · exact List.mem_cons_of_mem _
      · intro h
        rcases List.mem_cons.mp h with h | h
        · rw [← h] at e; exact absurd rfl e
        · exact h
theorem lk_filter {T : Tn} (nd : (T.map (·.1)).Nodup) {a : Pr} {v w : Int} : lk (T.filter fun q => decide (q.2 < v)) a = some w ↔ lk T a = some w ∧ w < v := by
  have nd2 : ((T.filter fun q => decide (q.2 < v)).map (·.1)).Nodup := by
    unfold List.Nodup at nd ⊢
    rw [List.pairwise_map] at nd ⊢
    exact nd.filter _
  rw [lk_mem nd2, lk_mem nd, List.mem_filter]
  simp
section
variable {n : Nat} {es : List Pr} (o : OkW n es)
include o
theorem tlen : (turnsT n es).length ≤ 25 := by
  have t := turns_tf o
  have l := len_sub t.nd t.sub
  have := pairs_len n
  have := sq o
  rw [List.length_map] at l
  omega
theorem flen : (freeL n es).length ≤ 25 := by
  have := List.length_filter_le (fun a => !(lk (turnsT n es) a).isSome) (pairs n)
  have := pairs_len n
  have := sq o
  unfold freeL
  omega
theorem e_free_of : d_free_of [ag (wD n es)] = ret (.fr (.list ((freeL n es).map prD))) := by
  have h1 := e_turns_of o
  have h2 := e_all_pairs o
  have pl := pairs_len n
  have s := sq o
  have hh := lc_map (f := prD) (l := pairs n) (b := fun a => !(lk (turnsT n es) a).isSome) (g := prD) (w := wSeq true (calE d_all_pairs (gcons (var 0) gnil))) (tg := tName 2) (t := tst (u2 (vl2 ninD) (var 2) (var 1))) (e := var 2) (vs := [2]) (ρ := [.rd (wD n es), .own (.dt (tnD (turnsT n es))), .un])
    (by simp only [ag, wD] at h2; simp [fn, sRet, sSeq, sSet, sIf, sNil, sDrop, u1, u2, rdv, fzv, var, cst, vl, vl2, nw, tst, tand, tor, tnot, pandE, porE, pnotE, calE, gcons, gnil, lcons, lnil, lstar, tupE, lstE, Rr.arg, Rr.look, Rr.fzn, Rr.re, Rr.sl, Re.rr, Sl.data, agS, box, ixD, at_, ixn, i2, addD, subD, plusD, isD, isnD, isNon, opt_some, bnd_ret, seqOf, wSeq, stv, Rr.stb, items, ife, inb, uns, Sl.inn, tName, tgT, tgCons, tgNil, wD, h2]) (fun a ha => ⟨[.rd (wD n es), .rd (.dt (tnD (turnsT n es))), .fz (prD a)], rfl, by simp [fn, sRet, sSeq, sSet, sIf, sNil, sDrop, u1, u2, rdv, fzv, var, cst, vl, vl2, nw, tst, tand, tor, tnot, pandE, porE, pnotE, calE, gcons, gnil, lcons, lnil, lstar, tupE, lstE, Rr.arg, Rr.look, Rr.fzn, Rr.re, Rr.sl, Re.rr, Sl.data, agS, box, ixD, at_, ixn, i2, addD, subD, plusD, isD, isnD, isNon, opt_some, bnd_ret, seqOf, wSeq, stv, Rr.stb, items, ife, inb, uns, Sl.inn, tName, tgT, tgCons, tgNil], fun _ => rfl⟩) (by rw [pl]; exact limB (by omega))
  have h' : d_free_of_c1 [.rd (wD n es), .own (.dt (tnD (turnsT n es))), .un] = ret (.fr (.list ((freeL n es).map prD))) := hh
  exact fn_rt rfl ((seq_nx (set_ev (cal_ev (gs := [ag (wD n es)]) rfl h1) rfl (show 1 < 3 by decide))).trans (ret_ev h' rfl))
theorem e_can_chase : d_can_chase [ag (wD n es)] = ret (.val (.bool (freeL n es).isEmpty)) := by
  have h1 := e_check_web o
  have h2 := e_free_of o
  have h6 := eqD_nil (shp_prs1 (freeL n es))
  have e : ((freeL n es).map prD).isEmpty = (freeL n es).isEmpty := by cases freeL n es <;> rfl
  rw [e] at h6
  have l0 : lstE lnil [.rd (wD n es)] = ret (.fr (.list [])) := rfl
  exact fn_rt rfl ((seq_nx (drop_ev (cal_ev (gs := [ag (wD n es)]) rfl h1))).trans (ret_ev (u2_ev (rd_ev (cal_ev (gs := [ag (wD n es)]) rfl h2) rfl) (rd_ev l0 rfl) (vl2_ev h6)) rfl))
theorem e_free_pairs : d_free_pairs [ag (wD n es)] = ret (.val (.tuple ((freeL n es).map prD))) := by
  have h1 := e_check_web o
  have h2 := e_free_of o
  exact fn_rt rfl ((seq_nx (drop_ev (cal_ev (gs := [ag (wD n es)]) rfl h1))).trans (ret_ev (u1_ev (rd_ev (cal_ev (gs := [ag (wD n es)]) rfl h2) rfl) (vl_ev rfl)) rfl))
def optD (v : Option Int) : D := (v.map D.int).getD .none
theorem e_chase_turns {p q : Int} (h0 : 0 ≤ p) (h1 : p < n) (h2 : 0 ≤ q) (h3 : q < n) : d_chase_turns [ag (wD n es), ag (.int p), ag (.int q)] = ret (.val (optD (lk (turnsT n es) (p, q)))) := by
  have c := e_check_two_places o h0 h1 h2 h3
  have h4 := e_turns_of o
  have l2 : 2 ≤ lim := limB (by omega)
  have h5 := dget_tn (turnsT n es) (p, q)
  exact fn_rt rfl ((seq_nx (drop_ev (cal_ev (gs := [ag (wD n es), ag (.int p), ag (.int q)]) rfl c))).trans (ret_ev (get1_ev (rd_ev (cal_ev (gs := [ag (wD n es)]) rfl h4) rfl) rfl (rd_ev (tup_ev (ds := [.int p, .int q]) rfl l2) rfl) h5) rfl))
theorem fewer_dcl {T : Tn} (nd : (T.map (·.1)).Nodup) (v t h : Int) : dcl n es (T.filter fun q => decide (q.2 < v)) t h = true ↔ clv n es T v t h := by
  have := dcl_iff (n := n) (es := es) (T := T.filter fun q => decide (q.2 < v)) (i := v) (fun a w hw => ((lk_filter nd).mp hw).2) t h
  rw [this]
  unfold clv
  constructor
  · rintro (e | e)
    · exact .inl e
    · exact .inr fun u hu hne => by
        obtain ⟨w, h1, h2⟩ := e u hu hne
        exact ⟨w, ((lk_filter nd).mp h1).1, h2⟩
  · rintro (e | e)
    · exact .inl e
    · exact .inr fun u hu hne => by
        obtain ⟨w, h1, h2⟩ := e u hu hne
        exact ⟨w, (lk_filter nd).mpr ⟨h1, h2⟩, h2⟩
theorem items_tn {T : Tn} (hl : T.length ≤ 25) : itemsT (.dt (tnD T)) = some (T.map fun q => D.tuple [prD q.1, .int q.2]) := by
  show (if ((tnD T).all fun p => decide (p.1.length ≤ lim)) = true ∧ (tnD T).length ≤ lim then some ((tnD T).map fun p => D.tuple [tkd p.1, p.2]) else none) = _
  have l2 : 2 ≤ lim := limB (by omega)
  have h1 : ((tnD T).all fun p => decide (p.1.length ≤ lim)) = true := by
    rw [List.all_eq_true]
    intro p hp
    obtain ⟨q, _, rfl⟩ := List.mem_map.mp hp
    exact decide_eq_true l2
  have h2 : (tnD T).length ≤ lim := by unfold tnD; rw [List.length_map]; exact limB (by omega)
  rw [if_pos ⟨h1, h2⟩]
  unfold tnD
  rw [List.map_map]
  rfl
theorem e_first_move {a : Pr} {v : Int} (ha : a ∈ pairs n) (hv : lk (turnsT n es) a = some v) (h1 : 1 ≤ v) :
    ∃ t, d_first_move_by [ag (wD n es), ag (prD a)] = ret (.val (.int t)) ∧ t ∈ goes n es a.1 ∧ clv n es (turnsT n es) v t a.2 := by
  have tf := turns_tf o
  have tl := tlen o
  have h4 := e_turns_of o
  have h5 := dget_tn (turnsT n es) a
  rw [hv] at h5
  have hi := items_tn o tl
  have fnd : (((turnsT n es).filter fun q => decide (q.2 < v)).map (·.1)).Nodup := by
    have := tf.nd
    unfold List.Nodup at this ⊢
    rw [List.pairwise_map] at this ⊢
    exact this.filter _
  have cl := e_closing_moves o ((turnsT n es).filter fun q => decide (q.2 < v)) ha
  obtain ⟨t0, ht0, hc0⟩ := tf.P1 a v hv h1
  have hne : cm n es ((turnsT n es).filter fun q => decide (q.2 < v)) a ≠ [] := cm_ne.mpr ⟨t0, ht0, (fewer_dcl o tf.nd v t0 a.2).mpr hc0⟩
  obtain ⟨t, ts, ht⟩ := List.exists_cons_of_ne_nil hne
  have tm : t ∈ cm n es ((turnsT n es).filter fun q => decide (q.2 < v)) a := by rw [ht]; exact List.mem_cons_self
  obtain ⟨tg, tc⟩ := List.mem_filter.mp (show t ∈ (goes n es a.1).filter _ from tm)
  refine ⟨t, ?_, tg, (fewer_dcl o tf.nd v t a.2).mp tc⟩
  have h6 : d_first_move_by_c1 [.rd (wD n es), .rd (prD a), .own (.dt (tnD (turnsT n es))), .un, .un, .un] = ret (.fr (.dt (tnD ((turnsT n es).filter fun q => decide (q.2 < v))))) := by
    have g := wGo_kd (f := fun q : Pr × Int => D.tuple [prD q.1, .int q.2]) (kf := fun q => q.1) (vf := fun q => q.2) (b := fun q => decide (q.2 < v)) (tg := tgT (tgCons (tName 4) (tgCons (tName 5) tgNil))) (tt := tst (u2 (vl2 ltD) (var 5) (u2 (vl2 ixD) (var 2) (var 1)))) (ek := var 4) (ev := var 5)
      (ρ := [.rd (wD n es), .rd (prD a), .rd (.dt (tnD (turnsT n es))), .un, .un, .un]) (turnsT n es) []
      (fun q hq => ⟨[.rd (wD n es), .rd (prD a), .rd (.dt (tnD (turnsT n es))), .un, .fz (prD q.1), .fz (.int q.2)], rfl, by generalize tnD (turnsT n es) = TT at h5 ⊢; simp [fn, sRet, sSeq, sSet, sIf, sNil, sDrop, u1, u2, rdv, fzv, var, cst, vl, vl2, nw, tst, tand, tor, tnot, pandE, porE, pnotE, calE, gcons, gnil, lcons, lnil, lstar, tupE, lstE, Rr.arg, Rr.look, Rr.fzn, Rr.re, Rr.sl, Re.rr, Sl.data, agS, box, ixD, at_, ixn, i2, addD, subD, plusD, isD, isnD, isNon, opt_some, bnd_ret, seqOf, wSeq, stv, Rr.stb, items, ife, inb, uns, Sl.inn, tName, tgT, tgCons, tgNil, prD] at h5 ⊢; simp [h5], fun _ => ⟨rfl, rfl⟩⟩) (by simpa using fnd) (by rw [List.length_nil]; exact limB (by omega))
    unfold d_first_move_by_c1 dcI
    show bnd (opt (itemsT (.dt (tnD (turnsT n es))))) _ = _
    rw [hi]
    show bnd (wGo (tgT (tgCons (tName 4) (tgCons (tName 5) tgNil))) (kd (tst (u2 (vl2 ltD) (var 5) (u2 (vl2 ixD) (var 2) (var 1)))) (var 4) (var 5)) [.rd (wD n es), .rd (prD a), .rd (.dt (tnD (turnsT n es))), .un, .un, .un] ((turnsT n es).map fun q => D.tuple [prD q.1, .int q.2]) (D.dt (tnD []))) (fun o => ret (Rr.fr o)) = _
    rw [g]
    simp
  have v0 : ¬ v = 0 := by omega
  rw [ht] at cl
  have h7 : eqD (.int v) (.int 0) = some (.bool false) := by rw [eqD_int, decide_eq_false v0]
  have h8 : at_ (((t :: ts).map D.int)) 0 = some (.int t) := by
    unfold at_ ixn
    rw [if_pos (by omega), if_pos (by rw [List.length_map, List.length_cons]; omega)]
    rfl
  exact fn_rt rfl ((seq_nx (set_ev (cal_ev (gs := [ag (wD n es)]) rfl h4) rfl (show 2 < 6 by decide))).trans
    ((seq_nx ((if_f (tst_ev (rd_ev (u2_ev (rd_ev (get2_ev (y := .int 0) (rd_ev (rr := .al 2) rfl rfl) rfl (rd_ev (rr := .val (prD a)) rfl rfl) rfl h5) rfl) (rd_ev (rr := .val (.int 0)) rfl rfl) (vl2_ev h7)) rfl))).trans rfl)).trans
    ((seq_nx (set_ev h6 rfl (show 3 < 6 by decide))).trans
    (ret_ev (u2_ev (rd_ev (cal_ev (gs := [ag (wD n es), ag (.dt (tnD ((turnsT n es).filter fun q => decide (q.2 < v)))), ag (prD a)]) rfl cl) rfl) (rd_ev (rr := .val (.int 0)) rfl rfl) (vl2_ev h8)) rfl))))
end
end HK

set_option Elab.async false
set_option linter.all false
set_option maxRecDepth 100000
/-! M52e: the hunter's move; the law's own neighbours. -/
namespace HK
open PySem PV
section
variable {n : Nat} {es : List Pr} (o : OkW n es)
include o
theorem e_hunter_move {p q v : Int} (h0 : 0 ≤ p) (h1 : p < n) (h2 : 0 ≤ q) (h3 : q < n) (hv : lk (turnsT n es) (p, q) = some v) (hp : 1 ≤ v) :
    ∃ t, d_hunter_move [ag (wD n es), ag (.int p), ag (.int q)] = ret (.val (.int t)) ∧ t ∈ goes n es p ∧ clv n es (turnsT n es) v t q := by
  obtain ⟨t, e, m, c⟩ := e_first_move o (a := (p, q)) (mem_pairs.mpr ⟨⟨h0, h1⟩, h2, h3⟩) hv hp
  refine ⟨t, ?_, m, c⟩
  have h4 := e_check_two_places o h0 h1 h2 h3
  have hl : 2 ≤ lim := limB (by omega)
  have ht : tupE (lcons (var 1) (lcons (var 2) lnil)) [.rd (wD n es), .rd (.int p), .rd (.int q)] = ret (.val (prD (p, q))) := tup_ev rfl hl
  exact fn_rt rfl ((seq_nx (drop_ev (cal_ev (gs := [ag (wD n es), ag (.int p), ag (.int q)]) rfl h4))).trans
    (ret_ev (cal_ev (gs := [ag (wD n es), ag (prD (p, q))]) (g_cons rfl rfl (g_cons ht rfl rfl)) e) rfl))
theorem e__law_near (p : Int) : d__law_near [ag (wD n es), ag (.int p)] = ret (.fr (.list ((near n es p).map D.int))) := by
  have hn := o.n5
  have hc : d__law_near_c1 [.rd (wD n es), .rd (.int p), .un] = ret (.fr (.list ((near n es p).map D.int))) := by
    have hw : wRng1 (u2 (vl2 ixD) (var 0) (cst (.int 0))) (inb [2] [.rd (wD n es), .rd (.int p), .un]) = ret ((ups n).map D.int) := by
      have h := okRng0 (n := n) (by omega)
      have h2 := rng_ups n
      simp [wRng1, fn, sRet, sSeq, sSet, sIf, sNil, sDrop, u1, u2, rdv, fzv, var, cst, vl, vl2, nw, tst, tand, tor, tnot, pandE, porE, pnotE, calE, gcons, gnil, lcons, lnil, lstar, tupE, lstE, Rr.arg, Rr.look, Rr.fzn, Rr.re, Rr.sl, Re.rr, Sl.data, agS, box, ixD, at_, ixn, i2, addD, subD, plusD, isD, isnD, isNon, opt_some, bnd_ret, seqOf, wSeq, stv, Rr.stb, items, ife, inb, uns, Sl.inn, tName, tgT, tgCons, tgNil, wD, h, h2]
    refine lc_map (f := D.int) (l := ups n) (b := adj es p) (g := D.int) hw (fun q hq => ⟨[.rd (wD n es), .rd (.int p), .fz (.int q)], rfl, ?_, fun _ => rfl⟩) (limB (by rw [ups_len]; omega))
    have h := inD_prs2 es (min p q, max p q)
    have hl : 2 ≤ lim := limB (by omega)
    have e1 : (if q < p then q else p) = min p q := by split <;> omega
    have e2 : (if q > p then q else p) = max p q := by split <;> omega
    have ht : tupE (lcons (u2 (vl2 min2D) (var 1) (var 2)) (lcons (u2 (vl2 max2D) (var 1) (var 2)) lnil)) [.rd (wD n es), .rd (.int p), .fz (.int q)] = ret (.val (prD (min p q, max p q))) := by
      have hx : tupE (lcons (u2 (vl2 min2D) (var 1) (var 2)) (lcons (u2 (vl2 max2D) (var 1) (var 2)) lnil)) [.rd (wD n es), .rd (.int p), .fz (.int q)] = ret (.val (.tuple [.int (if q < p then q else p), .int (if q > p then q else p)])) := tup_ev rfl hl
      rw [e1, e2] at hx
      exact hx
    exact tst_ev (rd_ev (u2_ev (rd_ev ht rfl) (rd_ev (u2_ev (rd_ev (rr := .val (wD n es)) rfl rfl) (rd_ev (rr := .val (.int 1)) rfl rfl) (vl2_ev rfl)) rfl) (vl2_ev h)) rfl)
  exact fn_rt rfl (ret_ev hc rfl)
/-- The law's own list of ways: the place itself, then its neighbours. -/
def lgo (n : Nat) (es : List Pr) (p : Int) : List Int := p :: near n es p
theorem e__law_goes (p : Int) : d__law_goes [ag (wD n es), ag (.int p)] = ret (.fr (.list ((lgo n es p).map D.int))) := by
  have hn := o.n5
  have h2 := e__law_near o p
  have l0 : lstE (lcons (var 1) lnil) [.rd (wD n es), .rd (.int p)] = ret (.fr (.list [.int p])) := by
    have hl : 1 ≤ lim := limB (by omega)
    simp [fn, sRet, sSeq, sSet, sIf, sNil, sDrop, u1, u2, rdv, fzv, var, cst, vl, vl2, nw, tst, tand, tor, tnot, pandE, porE, pnotE, calE, gcons, gnil, lcons, lnil, lstar, tupE, lstE, Rr.arg, Rr.look, Rr.fzn, Rr.re, Rr.sl, Re.rr, Sl.data, agS, box, ixD, at_, ixn, i2, addD, subD, plusD, isD, isnD, isNon, opt_some, bnd_ret, seqOf, wSeq, stv, Rr.stb, items, ife, inb, uns, Sl.inn, tName, tgT, tgCons, tgNil, hl]
  have hp : plusD (.list [.int p]) (.list ((near n es p).map D.int)) = ret (.fr (.list ((lgo n es p).map D.int))) := by
    have hl : [D.int p].length + ((near n es p).map D.int).length ≤ lim := limB (by rw [List.length_map]; have := near_len (n := n) (es := es) (p := p); simp; omega)
    unfold plusD
    simp only [if_pos hl]
    rfl
  exact fn_rt rfl (ret_ev (u2_ev (rd_ev l0 rfl) (rd_ev (cal_ev (gs := [ag (wD n es), ag (.int p)]) rfl h2) rfl) hp) rfl)
theorem mem_lgo {p q : Int} (h0 : 0 ≤ p) (h1 : p < n) : q ∈ lgo n es p ↔ q ∈ goes n es p := by
  unfold lgo
  rw [List.mem_cons, mem_near, mem_goes]
  constructor
  · rintro (e | h)
    · subst e; exact ⟨⟨h0, h1⟩, .inl rfl⟩
    · exact ⟨h.1, .inr h.2⟩
  · rintro ⟨h, e | h'⟩
    · exact .inl e
    · exact .inr ⟨h, h'⟩
end
end HK

set_option Elab.async false
set_option linter.all false
set_option maxRecDepth 100000
/-! M52f: safe sets and folds (no program in sight). -/
namespace HK
open PySem PV
/-- A set of pairs (hunter, hare) in which the hare can stay for ever, all ways kept within the lot L. -/
structure Safe (G : Int → Int → Prop) (L : Int → Prop) (F : Int → Int → Prop) : Prop where
  ne : ∃ c h, F c h
  inL : ∀ c h, F c h → L c ∧ L h
  st : ∀ c h, F c h → ∀ t, L t → G c t → t ≠ h ∧ ∃ u, L u ∧ G h u ∧ F t u
/-- p can be folded onto q within L. -/
structure Dom (G : Int → Int → Prop) (L : Int → Prop) (p q : Int) : Prop where
  hp : L p
  hq : L q
  ne : p ≠ q
  all : ∀ x, L x → G p x → G q x
section
variable {G : Int → Int → Prop} {L : Int → Prop} {p q : Int} (rf : ∀ x, L x → G x x) (sy : ∀ x y, G x y → G y x)
include rf sy
theorem fold_hom (d : Dom G L p q) (x y : Int) (hx : L x) (hy : L y) (g : G x y) : G (if x = p then q else x) (if y = p then q else y) := by
  by_cases h1 : x = p
  · rw [if_pos h1]
    subst h1
    by_cases h2 : y = x
    · rw [if_pos h2]; exact rf _ d.hq
    · rw [if_neg h2]; exact d.all _ hy g
  · rw [if_neg h1]
    by_cases h2 : y = p
    · rw [if_pos h2]
      subst h2
      exact sy _ _ (d.all _ hx (sy _ _ g))
    · rw [if_neg h2]; exact g
theorem safe_up (d : Dom G L p q) (h : ∃ F, Safe G (fun x => L x ∧ x ≠ p) F) : ∃ F, Safe G L F := by
  obtain ⟨F, s⟩ := h
  refine ⟨fun c x => L c ∧ F (if c = p then q else c) x, ?_, ?_, ?_⟩
  · obtain ⟨c, x, f⟩ := s.ne
    have := (s.inL _ _ f).1
    exact ⟨c, x, this.1, by rw [if_neg this.2]; exact f⟩
  · intro c x f
    exact ⟨f.1, (s.inL _ _ f.2).2.1⟩
  · intro c x f t lt g
    have hm := fold_hom rf sy d c t f.1 lt g
    have lr : L (if t = p then q else t) ∧ (if t = p then q else t) ≠ p := by
      by_cases e : t = p
      · rw [if_pos e]; exact ⟨d.hq, fun e => d.ne e.symm⟩
      · rw [if_neg e]; exact ⟨lt, e⟩
    obtain ⟨n1, u, lu, gu, fu⟩ := s.st _ _ f.2 _ lr hm
    refine ⟨fun e => ?_, u, lu.1, gu, lt, fu⟩
    have := (s.inL _ _ f.2).2.2
    rw [e, if_neg this] at n1
    exact n1 rfl
theorem safe_down (d : Dom G L p q) (h : ∃ F, Safe G L F) : ∃ F, Safe G (fun x => L x ∧ x ≠ p) F := by
  obtain ⟨F, s⟩ := h
  have go : ∀ x, L x → L (if x = p then q else x) ∧ (if x = p then q else x) ≠ p := fun x lx => by
    by_cases e : x = p
    · rw [if_pos e]; exact ⟨d.hq, fun e => d.ne e.symm⟩
    · rw [if_neg e]; exact ⟨lx, e⟩
  refine ⟨fun c y => c ≠ p ∧ ∃ x, F c x ∧ (if x = p then q else x) = y, ?_, ?_, ?_⟩
  · obtain ⟨c, x, f⟩ := s.ne
    by_cases e : c = p
    · have g : G p q := sy _ _ (d.all _ d.hp (rf _ d.hp))
      subst e
      obtain ⟨_, u, _, _, fu⟩ := s.st _ _ f q d.hq g
      exact ⟨q, _, fun e => d.ne e.symm, u, fu, rfl⟩
    · exact ⟨c, _, e, x, f, rfl⟩
  · rintro c y ⟨hc, x, f, rfl⟩
    exact ⟨⟨(s.inL _ _ f).1, hc⟩, go _ (s.inL _ _ f).2⟩
  · rintro c y ⟨hc, x, f, rfl⟩ t lt g
    obtain ⟨n1, u, lu, gu, fu⟩ := s.st _ _ f t lt.1 g
    refine ⟨?_, _, go u lu, fold_hom rf sy d _ _ (s.inL _ _ f).2 lu gu, lt.2, u, fu, rfl⟩
    by_cases e : x = p
    · rw [if_pos e]
      intro e2
      subst e e2
      exact (s.st _ _ fu u lu (d.all _ lu gu)).1 rfl
    · rw [if_neg e]; exact n1
theorem safe_stuck {a b : Int} (la : L a) (lb : L b) (ab : a ≠ b) (h : ∀ p q, ¬ Dom G L p q) : ∃ F, Safe G L F := by
  have nd : ∀ x y, L x → L y → x ≠ y → ∃ u, L u ∧ G x u ∧ ¬ G y u := fun x y lx ly xy =>
    Classical.byContradiction fun c => h x y ⟨lx, ly, xy, fun z lz g => Classical.byContradiction fun g' => c ⟨z, lz, g, g'⟩⟩
  refine ⟨fun c x => L c ∧ L x ∧ ¬ G c x, ?_, fun c x f => ⟨f.1, f.2.1⟩, ?_⟩
  · obtain ⟨u, lu, _, g⟩ := nd a b la lb ab
    exact ⟨b, u, lb, lu, g⟩
  · intro c x f t lt g
    have e : t ≠ x := fun e => f.2.2 (e ▸ g)
    obtain ⟨u, lu, gu, ngu⟩ := nd x t f.2.1 lt (fun e' => e e'.symm)
    exact ⟨e, u, lu, gu, lt, lu, ngu⟩
omit sy in
theorem safe_one {a : Int} (h : ∀ x, L x → x = a) : ¬ ∃ F, Safe G L F := by
  rintro ⟨F, s⟩
  obtain ⟨c, x, f⟩ := s.ne
  have l := s.inL _ _ f
  have := (s.st _ _ f c l.1 (rf _ l.1)).1
  exact this ((h _ l.1).trans (h _ l.2).symm)
end
end HK

set_option Elab.async false
set_option linter.all false
set_option maxRecDepth 100000
/-! M52g: free pairs and safe sets; a bare web has no safe set. -/
namespace HK
open PySem PV
def gW (n : Nat) (es : List Pr) (p q : Int) : Prop := q ∈ goes n es p
def lW (k : Nat) (x : Int) : Prop := 0 ≤ x ∧ x < k
theorem gW_rf {n k : Nat} {es : List Pr} (h : k ≤ n) : ∀ x, lW k x → gW n es x x := fun x hx => mem_goes.mpr ⟨⟨hx.1, by have := hx.2; omega⟩, .inl rfl⟩
section
variable {n : Nat} {es : List Pr} (o : OkW n es)
include o
theorem free_safe : freeL n es ≠ [] ↔ ∃ F, Safe (gW n es) (lW n) F := by
  have tf := turns_tf o
  constructor
  · intro h
    refine ⟨fun c x => (c, x) ∈ pairs n ∧ lk (turnsT n es) (c, x) = none, ?_, ?_, ?_⟩
    · obtain ⟨a, ha⟩ := List.exists_mem_of_ne_nil _ h
      exact ⟨a.1, a.2, mem_free.mp ha⟩
    · intro c x f
      exact mem_pairs.mp f.1
    · intro c x f t lt g
      have h3 := tf.P3 _ f.1 f.2 t g
      unfold dcl at h3
      rw [Bool.or_eq_false_iff] at h3
      refine ⟨of_decide_eq_false h3.1, ?_⟩
      have h4 := h3.2
      rw [List.all_eq_false] at h4
      obtain ⟨u, hu, nu⟩ := h4
      rw [List.mem_filter] at hu
      have lu := (mem_goes.mp hu.1).1
      refine ⟨u, lu, hu.1, mem_pairs.mpr ⟨lt, lu⟩, ?_⟩
      cases e : lk (turnsT n es) (t, u) with
      | none => rfl
      | some v => rw [e] at nu; exact absurd rfl nu
  · rintro ⟨F, s⟩
    have key : ∀ (k : Nat) (v : Int) (c x : Int), v.toNat < k → F c x → lk (turnsT n es) (c, x) = some v → False := by
      intro k
      induction k with
      | zero => intro v c x h; omega
      | succ k ih =>
        intro v c x hk f hv
        have lc := s.inL _ _ f
        have b := tf.vb _ _ hv
        by_cases v0 : v = 0
        · subst v0
          have e : c = x := tf.z _ hv
          exact (s.st _ _ f c lc.1 (gW_rf (Nat.le_refl n) c lc.1)).1 e
        · obtain ⟨t, ht, cl⟩ := tf.P1 _ _ hv (by omega)
          have lt := (mem_goes.mp ht).1
          obtain ⟨n1, u, lu, gu, fu⟩ := s.st _ _ f t lt ht
          rcases cl with e | cl
          · exact n1 e
          · have ne : u ≠ t := fun e => (s.st _ _ fu t lt (gW_rf (Nat.le_refl n) t lt)).1 e.symm
            obtain ⟨w, hw, wv⟩ := cl u gu ne
            have bw := tf.vb _ _ hw
            exact ih w t u (by omega) fu hw
    obtain ⟨c, x, f⟩ := s.ne
    have l := s.inL _ _ f
    cases e : lk (turnsT n es) (c, x) with
    | none => exact List.ne_nil_of_mem (a := (c, x)) (mem_free.mpr ⟨mem_pairs.mpr ⟨l.1, l.2⟩, e⟩)
    | some v => exact (key _ v c x (Nat.lt_succ_self _) f e).elim
theorem bare_one (hl : es.length = n - 1) {u u' v : Int} (h1 : (u, v) ∈ es) (h2 : (u', v) ∈ es) : u = u' := by
  refine Classical.byContradiction fun ne => ?_
  have hsub : ∀ x ∈ (ups (n - 1)).map (· + 1), x ∈ (es.erase (u', v)).map (·.2) := by
    intro x hx
    rw [List.mem_map] at hx
    obtain ⟨y, hy, rfl⟩ := hx
    rw [mem_ups] at hy
    have n3 := o.n3
    rw [List.mem_map]
    by_cases e : y + 1 = v
    · exact ⟨(u, v), (List.mem_erase_of_ne fun e => ne (congrArg Prod.fst e)).mpr h1, e.symm⟩
    · obtain ⟨w, _, _, hw⟩ := o.con (y + 1) (by omega) (by omega)
      exact ⟨(w, y + 1), (List.mem_erase_of_ne fun e' => e (congrArg Prod.snd e')).mpr hw, rfl⟩
  have nd : ((ups (n - 1)).map (· + 1)).Nodup := by
    have h := ups_asc (n - 1)
    exact (List.pairwise_map.mpr (h.imp fun h => by omega))
  have h := len_sub nd hsub
  rw [List.length_map, List.length_map, ups_len, List.length_erase_of_mem h2] at h
  have n3 := o.n3
  omega
theorem gW_sy : ∀ x y, gW n es x y → gW n es y x := by
  intro x y g
  have h := mem_goes.mp g
  rcases h.2 with e | a
  · subst e; exact g
  · have := adj_rg o a
    exact mem_goes.mpr ⟨⟨this.1, this.2.1⟩, .inr (adj_symm es y x ▸ a)⟩
theorem bare_dom (hl : es.length = n - 1) {k : Nat} (h1 : 1 ≤ k) (h2 : k < n) : ∃ p, Dom (gW n es) (lW (k + 1)) k p := by
  obtain ⟨u, u0, uk, hu⟩ := o.con k (by omega) (by omega)
  have au : adj es u k = true := by
    unfold adj
    rw [show min u (k : Int) = u by omega, show max u (k : Int) = k by omega]
    exact decide_eq_true hu
  refine ⟨u, ⟨by omega, by omega⟩, ⟨u0, by omega⟩, by omega, fun x lx g => ?_⟩
  have h := mem_goes.mp g
  rcases h.2 with e | a
  · exact mem_goes.mpr ⟨h.1, .inr (e ▸ au)⟩
  · have r := adj_rg o a
    have xk : x < k := by have := lx.2; omega
    unfold adj at a
    rw [show min (k : Int) x = x by omega, show max (k : Int) x = k by omega] at a
    have e := bare_one o hl (of_decide_eq_true a) hu
    exact mem_goes.mpr ⟨h.1, .inl e⟩
theorem bare_safe (hl : es.length = n - 1) : ∀ k, k + 1 ≤ n → ¬ ∃ F, Safe (gW n es) (lW (k + 1)) F := by
  intro k
  induction k with
  | zero => exact fun h => safe_one (gW_rf h) (a := 0) fun x hx => by have := hx.1; have := hx.2; omega
  | succ k ih =>
    intro h hs
    obtain ⟨p, d⟩ := bare_dom o hl (k := k + 1) (by omega) (by omega)
    have h2 := safe_down (gW_rf h) (gW_sy o) d hs
    have e : (fun x => lW (k + 1 + 1) x ∧ x ≠ ((k + 1 : Nat) : Int)) = lW (k + 1) := by
      funext x
      unfold lW
      apply propext
      constructor <;> intro h <;> omega
    rw [e] at h2
    exact ih (by omega) h2
theorem bare_free (hl : es.length = n - 1) : freeL n es = [] := by
  have n3 := o.n3
  refine Classical.byContradiction fun h => ?_
  have h2 := (free_safe o).mp h
  have := bare_safe o hl (n - 1) (by omega)
  rw [show n - 1 + 1 = n by omega] at this
  exact this h2
end
end HK

set_option Elab.async false
set_option linter.all false
set_option maxRecDepth 100000
/-! M52h: folds. -/
namespace HK
open PySem PV
def tD (L : List Int) : D := .tuple (L.map D.int)
def bsd (n : Nat) (es : List Pr) (L : List Int) (p : Int) : List Int := (goes n es p).filter fun x => decide (x ∈ L)
def cf (n : Nat) (es : List Pr) (L : List Int) (p q : Int) : Bool := !decide (p = q) && (bsd n es L p).all fun x => decide (x ∈ goes n es q)
def fds (n : Nat) (es : List Pr) (L : List Int) : List Pr := L.flatMap fun p => (L.filter (cf n es L p)).map fun q => (p, q)
theorem wseq_ev {md : Bool} {e : EX} {ρ : Rho} {rr : Rr} {d : D} {ds : List D} (h : e ρ = ret rr) (h2 : rr.stb md ρ = some d) (h3 : items d = some ds) : wSeq md e ρ = ret ds := by
  have h1 : stv md e ρ = ret d := by unfold stv; rw [h]; show opt (rr.stb md ρ) = _; rw [h2]; rfl
  unfold wSeq
  rw [h1]
  show opt (items d) = _
  rw [h3]
  rfl
theorem and_t {a b : EX} {ρ : Rho} (h : rdv a ρ = PV.ret (D.bool true)) : pandE a b ρ = b ρ := by unfold pandE; rw [h]; rfl
theorem and_f {a b : EX} {ρ : Rho} (h : rdv a ρ = PV.ret (D.bool false)) : pandE a b ρ = ret (.val (.bool false)) := by unfold pandE; rw [h]; rfl
section
variable {n : Nat} {es : List Pr} (o : OkW n es)
include o
theorem e_beside_within {L : List Int} {p : Int} (h0 : 0 ≤ p) (h1 : p < n) : d_beside_within [ag (wD n es), ag (tD L), ag (.int p)] = ret (.fr (.list ((bsd n es L p).map D.int))) := by
  have h4 := e_goes_of o h0 h1
  have n5 := o.n5
  have hh := lc_map (f := D.int) (l := goes n es p) (b := fun x => decide (x ∈ L)) (g := D.int) (w := wSeq true (calE d_goes_of (gcons (var 0) (gcons (var 2) gnil)))) (tg := tName 3) (t := tst (u2 (vl2 inD) (var 3) (var 1))) (e := var 3) (vs := [3]) (ρ := [.rd (wD n es), .rd (tD L), .rd (.int p), .un])
    (by simp only [ag, wD] at h4; simp [fn, sRet, sSeq, sSet, sIf, sNil, sDrop, u1, u2, rdv, fzv, var, cst, vl, vl2, nw, tst, tand, tor, tnot, pandE, porE, pnotE, calE, gcons, gnil, lcons, lnil, lstar, tupE, lstE, Rr.arg, Rr.look, Rr.fzn, Rr.re, Rr.sl, Re.rr, Sl.data, agS, box, ixD, at_, ixn, i2, addD, subD, plusD, isD, isnD, isNon, opt_some, bnd_ret, seqOf, wSeq, stv, Rr.stb, items, ife, inb, uns, Sl.inn, tName, tgT, tgCons, tgNil, wD, h4]) (fun t ht => ⟨[.rd (wD n es), .rd (tD L), .rd (.int p), .fz (.int t)], rfl, tst_ev (rd_ev (u2_ev (rd_ev (rr := .val (.int t)) rfl rfl) (rd_ev (rr := .val (tD L)) rfl rfl) (vl2_ev (inD_ints2 L t))) rfl), fun _ => rfl⟩) (limB (by have := goes_len (n := n) (es := es) (p := p); omega))
  exact fn_rt rfl (ret_ev hh rfl)
theorem bsd_len {L : List Int} {p : Int} : (bsd n es L p).length ≤ 5 := by
  have n5 := o.n5
  have := List.length_filter_le (fun x => decide (x ∈ L)) (goes n es p)
  have := goes_len (n := n) (es := es) (p := p)
  unfold bsd
  omega
theorem e_can_fold_by {L : List Int} {p q : Int} (h0 : 0 ≤ p) (h1 : p < n) (h2 : 0 ≤ q) (h3 : q < n) : d_can_fold_by [ag (wD n es), ag (tD L), ag (.int p), ag (.int q)] = ret (.val (.bool (cf n es L p q))) := by
  have h4 := e_beside_within o (L := L) h0 h1
  have h5 := e_goes_of o h2 h3
  have bl := bsd_len o (L := L) (p := p)
  have hc : ∀ ρ, ρ = [Sl.rd (wD n es), .rd (tD L), .rd (.int p), .rd (.int q), .un] → d_can_fold_by_c1 ρ = ret (.fr (.list ((bsd n es L p).map fun x => D.bool (decide (x ∈ goes n es q))))) := by
    rintro ρ rfl
    exact lc_mapY (f := D.int) (l := bsd n es L p) (g := fun x => D.bool (decide (x ∈ goes n es q))) (wseq_ev (cal_ev (gs := [ag (wD n es), ag (tD L), ag (.int p)]) rfl h4) rfl rfl) (fun x hx => ⟨[.rd (wD n es), .rd (tD L), .rd (.int p), .rd (.int q), .fz (.int x)], rfl,
        fz_ev (u2_ev (rd_ev (rr := .val (.int x)) rfl rfl) (rd_ev (cal_ev (gs := [ag (wD n es), ag (.int q)]) rfl h5) rfl) (vl2_ev (inD_ints1 (goes n es q) x))) rfl⟩) (limB (by omega))
  have h6 := all_map (fun x => decide (x ∈ goes n es q)) (bsd n es L p)
  have hu : ∀ ρ, ρ = [Sl.rd (wD n es), .rd (tD L), .rd (.int p), .rd (.int q), .un] → u1 (vl allD) d_can_fold_by_c1 ρ = ret (.val (.bool ((bsd n es L p).all fun x => decide (x ∈ goes n es q)))) := fun ρ e => u1_ev (rd_ev (hc ρ e) rfl) (vl_ev h6)
  have hu := hu _ rfl
  unfold cf
  generalize ((bsd n es L p).all fun x => decide (x ∈ goes n es q)) = B at hu ⊢
  refine fn_rt rfl (ret_ev (rr := .val (.bool (!decide (p = q) && B))) ?_ rfl)
  have hn : rdv (u2 (vl2 neD) (var 2) (var 3)) [Sl.rd (wD n es), .rd (tD L), .rd (.int p), .rd (.int q), .un] = PV.ret (D.bool (!decide (p = q))) :=
    rd_ev (u2_ev (rd_ev (rr := .val (.int p)) rfl rfl) (rd_ev (rr := .val (.int q)) rfl rfl) (vl2_ev (neD_int p q))) rfl
  generalize (!decide (p = q)) = A at hn ⊢
  cases A
  · exact and_f hn
  · exact (and_t hn).trans hu
theorem e_folds_by {L : List Int} (hL : ∀ x ∈ L, 0 ≤ x ∧ x < n) (ll : L.length ≤ 5) : d_folds_by [ag (wD n es), ag (tD L)] = ret (.fr (.list ((fds n es L).map prD))) := by
  have l2 : 2 ≤ lim := limB (by omega)
  have h := lc2_map (f := D.int) (f1 := D.int) (l := L) (ys := fun _ => L) (b1 := cf n es L) (g := fun p q => prD (p, q)) (w := wSeq true (var 1)) (tg := tName 2) (tg1 := tName 3) (t := yes) (t1 := tst (calE d_can_fold_by (gcons (var 0) (gcons (var 1) (gcons (var 2) (gcons (var 3) gnil)))))) (w1 := wSeq false (var 1)) (vs := [2, 3]) (vs1 := [3])
    (e := tupE (lcons (var 2) (lcons (var 3) lnil))) (ρ := [.rd (wD n es), .rd (tD L), .un, .un]) (m := 5)
    (wseq_ev (rr := .val (tD L)) rfl rfl rfl) (fun p hp => ⟨ll, [.rd (wD n es), .rd (tD L), .fz (.int p), .un], rfl, rfl, wseq_ev (rr := .val (tD L)) rfl rfl rfl, fun q hq =>
      ⟨[.rd (wD n es), .rd (tD L), .fz (.int p), .fz (.int q)], rfl, tst_ev (rd_ev (cal_ev (gs := [ag (wD n es), ag (tD L), ag (.int p), ag (.int q)]) rfl (e_can_fold_by o (hL p hp).1 (hL p hp).2 (hL q hq).1 (hL q hq).2)) rfl), fun _ => fz_ev (tup_ev (ds := [.int p, .int q]) rfl l2) rfl⟩⟩) (limB (by omega))
  have e : (L.flatMap fun p => (L.filter (cf n es L p)).map fun q => prD (p, q)) = (fds n es L).map prD := by
    unfold fds
    rw [List.map_flatMap]
    congr 1
    funext p
    rw [List.map_map]
    rfl
  rw [e] at h
  exact fn_rt rfl (ret_ev h rfl)
omit o in
theorem e_lot_without {L : List Int} {p : Int} (ll : L.length ≤ 5) : d_lot_without [ag (tD L), ag (.int p)] = ret (.val (tD (L.filter fun x => !decide (x = p)))) := by
  have hh := lc_map (f := D.int) (l := L) (b := fun x => !decide (x = p)) (g := D.int) (w := wSeq true (var 0)) (tg := tName 2) (t := tst (u2 (vl2 neD) (var 2) (var 1))) (e := var 2) (vs := [2]) (ρ := [.rd (tD L), .rd (.int p), .un])
    (wseq_ev (rr := .val (tD L)) rfl rfl rfl) (fun t ht => ⟨[.rd (tD L), .rd (.int p), .fz (.int t)], rfl, tst_ev (rd_ev (u2_ev (rd_ev (rr := .val (.int t)) rfl rfl) (rd_ev (rr := .val (.int p)) rfl rfl) (vl2_ev (neD_int t p))) rfl), fun _ => rfl⟩) (limB (by omega))
  exact fn_rt rfl (ret_ev (u1_ev (rd_ev hh rfl) (vl_ev rfl)) rfl)
end
end HK

set_option Elab.async false
set_option linter.all false
set_option maxRecDepth 100000
/-! M52i: folding a whole web (no program in sight). -/
namespace HK
open PySem PV
def fstep (n : Nat) (es : List Pr) (s : List Pr × List Int) : List Pr × List Int := match fds n es s.2 with
  | [] => s
  | a :: _ => (s.1 ++ [a], s.2.filter fun x => !decide (x = a.1))
def fdd (n : Nat) (es : List Pr) : Nat → List Pr × List Int → List Pr × List Int
  | 0, s => s
  | k + 1, s => fdd n es k (fstep n es s)
theorem mem_fds {n : Nat} {es : List Pr} {L : List Int} {a : Pr} : a ∈ fds n es L ↔ Dom (gW n es) (· ∈ L) a.1 a.2 := by
  unfold fds
  rw [List.mem_flatMap]
  have hc : ∀ p q, cf n es L p q = true ↔ p ≠ q ∧ ∀ x ∈ goes n es p, x ∈ L → x ∈ goes n es q := by
    intro p q
    unfold cf bsd
    rw [Bool.and_eq_true, List.all_eq_true]
    refine and_congr (by simp) ⟨fun h x g lx => of_decide_eq_true (h x (List.mem_filter.mpr ⟨g, decide_eq_true lx⟩)), fun h x hx => ?_⟩
    have hx := List.mem_filter.mp hx
    exact decide_eq_true (h x hx.1 (of_decide_eq_true hx.2))
  constructor
  · rintro ⟨p, hp, h⟩
    rw [List.mem_map] at h
    obtain ⟨q, hq, rfl⟩ := h
    rw [List.mem_filter] at hq
    have h := (hc p q).mp hq.2
    exact ⟨hp, hq.1, h.1, fun x lx g => h.2 x g lx⟩
  · intro d
    refine ⟨a.1, d.hp, List.mem_map.mpr ⟨a.2, List.mem_filter.mpr ⟨d.hq, (hc _ _).mpr ⟨d.ne, fun x g lx => d.all x lx g⟩⟩, rfl⟩⟩
structure FI (n : Nat) (es : List Pr) (s : List Pr × List Int) : Prop where
  nd : s.2.Nodup
  sub : ∀ x ∈ s.2, 0 ≤ x ∧ x < n
  ne : s.2 ≠ []
  len : s.1.length + s.2.length = n
  safe : freeL n es ≠ [] ↔ ∃ F, Safe (gW n es) (· ∈ s.2) F
section
variable {n : Nat} {es : List Pr} (o : OkW n es)
include o
theorem fi_start : FI n es ([], ups n) := by
  have n3 := o.n3
  refine ⟨(ups_asc n).imp fun h => by omega, fun x hx => mem_ups.mp hx, fun e => ?_, by simp [ups_len], ?_⟩
  · have := ups_len n
    rw [show ups n = [] from e] at this
    simp at this
    omega
  · have e : (fun x => x ∈ ups n) = lW n := by
      funext x
      exact propext mem_ups
    show freeL n es ≠ [] ↔ ∃ F, Safe (gW n es) (fun x => x ∈ ups n) F
    rw [e]
    exact free_safe o
theorem fi_step {s : List Pr × List Int} (I : FI n es s) : FI n es (fstep n es s) := by
  unfold fstep
  cases e : fds n es s.2 with
  | nil => exact I
  | cons a r =>
    have d := mem_fds.mp (show a ∈ fds n es s.2 by rw [e]; exact List.mem_cons_self)
    have rf : ∀ x, x ∈ s.2 → gW n es x x := fun x hx => gW_rf (Nat.le_refl n) x (I.sub x hx)
    have me : (fun x => x ∈ s.2.filter fun x => !decide (x = a.1)) = fun x => x ∈ s.2 ∧ x ≠ a.1 := by
      funext x
      rw [List.mem_filter]
      simp
    refine ⟨I.nd.filter _, fun x hx => I.sub x (List.mem_filter.mp hx).1, fun e2 => ?_, ?_, ?_⟩
    · have h : a.2 ∈ s.2.filter fun x => !decide (x = a.1) := List.mem_filter.mpr ⟨d.hq, by simpa using fun e => d.ne e.symm⟩
      rw [show (s.2.filter fun x => !decide (x = a.1)) = [] from e2] at h
      cases h
    · show (s.1 ++ [a]).length + (s.2.filter fun x => !decide (x = a.1)).length = n
      have h : (s.2.filter fun x => !decide (x = a.1)) = s.2.erase a.1 := by
        rw [I.nd.erase_eq_filter]
        congr 1
      rw [h, List.length_erase_of_mem d.hp, List.length_append]
      have := I.len
      have := List.length_pos_of_mem d.hp
      simp
      omega
    · show freeL n es ≠ [] ↔ ∃ F, Safe (gW n es) (fun x => x ∈ s.2.filter fun x => !decide (x = a.1)) F
      rw [me, I.safe]
      exact ⟨safe_down rf (gW_sy o) d, safe_up rf (gW_sy o) d⟩
theorem fdd_ok : ∀ (k : Nat) (s : List Pr × List Int), FI n es s → FI n es (fdd n es k s) ∧ (fds n es (fdd n es k s).2 = [] ∨ (fdd n es k s).1.length = s.1.length + k) := by
  intro k
  induction k with
  | zero => exact fun s I => ⟨I, .inr rfl⟩
  | succ k ih =>
    intro s I
    have h := ih _ (fi_step o I)
    refine ⟨h.1, ?_⟩
    cases e : fds n es s.2 with
    | nil =>
      left
      have e2 : fstep n es s = s := by unfold fstep; rw [e]
      have : ∀ k, fdd n es k s = s := by
        intro k
        induction k with
        | zero => rfl
        | succ k ih => show fdd n es k (fstep n es s) = s; rw [e2]; exact ih
      rw [this, e]
    | cons a r =>
      have e2 : (fstep n es s).1.length = s.1.length + 1 := by unfold fstep; rw [e]; simp
      rcases h.2 with h | h
      · exact .inl h
      · right
        show (fdd n es k (fstep n es s)).1.length = _
        rw [h, e2]
        omega
theorem fold_iff : (fdd n es n ([], ups n)).1.length = n - 1 ↔ freeL n es = [] := by
  obtain ⟨I, h⟩ := fdd_ok o n _ (fi_start o)
  generalize fdd n es n ([], ups n) = s at I h
  have n3 := o.n3
  have lp := List.length_pos_iff.mpr I.ne
  have il := I.len
  have st : fds n es s.2 = [] := by
    rcases h with h | h
    · exact h
    · simp at h; omega
  have rf : ∀ x, x ∈ s.2 → gW n es x x := fun x hx => gW_rf (Nat.le_refl n) x (I.sub x hx)
  constructor
  · intro e
    have l1 : s.2.length = 1 := by omega
    obtain ⟨a, ha⟩ := List.length_eq_one_iff.mp l1
    refine Classical.byContradiction fun hf => ?_
    have := I.safe.mp hf
    exact safe_one rf (a := a) (fun x hx => by rw [ha] at hx; simpa using hx) this
  · intro e
    refine Classical.byContradiction fun hl => ?_
    have nodom : ∀ p q, ¬ Dom (gW n es) (· ∈ s.2) p q := fun p q d => by
      have := (mem_fds (a := (p, q))).mpr d
      rw [st] at this
      cases this
    match hs : s.2, I.nd with
    | [], _ => exact I.ne hs
    | [a], _ => rw [hs] at il; simp at il; omega
    | a :: b :: r, nd =>
      have ab : a ≠ b := fun e => by subst e; simp at nd
      have := safe_stuck rf (gW_sy o) (a := a) (b := b) (by rw [hs]; simp) (by rw [hs]; simp) ab nodom
      exact I.safe.mpr this e
end
end HK

set_option Elab.async false
set_option linter.all false
set_option maxRecDepth 100000
/-! M52j: fold_row. -/
namespace HK
open PySem PV
def fR (n : Nat) (es : List Pr) (s : List Pr × List Int) (a b : Sl) : Rho := [.rd (wD n es), a, .own (.list (s.1.map prD)), .fz (tD s.2), b]
theorem own1_ev {T : String} {i : Nat} {p : EX} {f : D → D → Option D} {ρ : Rho} {d y d' : D} (h1 : gOwn i ρ = some d) (h2 : tyD T d = true) (h3 : fzv p ρ = PV.ret y) (h4 : f d y = some d') : sOwn1 T i p f ρ = PV.ret (.nx (ρ.set i (.own d'))) := by
  unfold sOwn1
  rw [h1]
  show (if tyD T d = true then _ else _) = _
  rw [if_pos h2, h3]
  show bnd (opt (f d y)) _ = _
  rw [h4]
  rfl
section
variable {n : Nat} {es : List Pr} (o : OkW n es)
include o
theorem fold_b1 {s : List Pr × List Int} {a b : Sl} (I : FI n es s) : ∃ b', d_folded_of_b1 (fR n es s a b) = ret (.nx (fR n es (fstep n es s) a b')) := by
  have n5 := o.n5
  have ll : s.2.length ≤ 5 := by have := I.len; omega
  have l1 : s.1.length ≤ 5 := by have := I.len; omega
  have h1 := e_folds_by o I.sub ll
  have h2 : sSet 4 (calE d_folds_by (gcons (var 0) (gcons (var 3) gnil))) (fR n es s a b) = ret (.nx (fR n es s a (.own (.list ((fds n es s.2).map prD))))) :=
    set_ev (cal_ev (gs := [ag (wD n es), ag (tD s.2)]) rfl h1) rfl (show 4 < 5 by decide)
  have l0 : lstE lnil (fR n es s a (.own (.list ((fds n es s.2).map prD)))) = ret (.fr (.list [])) := rfl
  have h3 := neD_nil (shp_prs1 (fds n es s.2))
  have ht := tst_ev (rd_ev (u2_ev (rd_ev (e := var 4) (rr := .al 4) (ρ := fR n es s a (.own (.list ((fds n es s.2).map prD)))) rfl rfl) (rd_ev l0 rfl) (vl2_ev h3)) rfl)
  cases e : fds n es s.2 with
  | nil =>
    refine ⟨.own (.list ([].map prD)), ?_⟩
    rw [e] at h2 ht
    have e2 : fstep n es s = s := by unfold fstep; rw [e]
    rw [e2]
    exact (seq_nx h2).trans ((if_f ht).trans rfl)
  | cons x r =>
    refine ⟨.own (.list ((x :: r).map prD)), ?_⟩
    rw [e] at h2 ht
    have e2 : fstep n es s = (s.1 ++ [x], s.2.filter fun y => !decide (y = x.1)) := by unfold fstep; rw [e]
    rw [e2]
    have h7 : at_ (((x :: r).map prD)) 0 = some (prD x) := by
      unfold at_ ixn
      rw [if_pos (by omega), if_pos (by rw [List.length_map, List.length_cons]; omega)]
      rfl
    have h4 : ∀ ρ, ρ = fR n es s a (.own (.list ((x :: r).map prD))) ∨ ρ = fR n es (s.1 ++ [x], s.2) a (.own (.list ((x :: r).map prD))) → u2 (vl2 ixD) (var 4) (cst (.int 0)) ρ = ret (.val (prD x)) := by
      rintro ρ (rfl | rfl) <;> exact u2_ev (rd_ev (e := var 4) (rr := .al 4) rfl rfl) (rd_ev (rr := .val (.int 0)) rfl rfl) (vl2_ev h7)
    have h5 : appD (.list (s.1.map prD)) (prD x) = some (.list ((s.1 ++ [x]).map prD)) := by
      have hl : (s.1.map prD).length < lim := by rw [List.length_map]; unfold lim; omega
      show (if (s.1.map prD).length < lim then some (D.list (s.1.map prD ++ [prD x])) else none) = _
      rw [if_pos hl, List.map_append]
      rfl
    have h6 : sOwn1 "list" 2 (u2 (vl2 ixD) (var 4) (cst (.int 0))) appD (fR n es s a (.own (.list ((x :: r).map prD)))) = ret (.nx (fR n es (s.1 ++ [x], s.2) a (.own (.list ((x :: r).map prD))))) :=
      own1_ev rfl rfl (fz_ev (h4 _ (.inl rfl)) rfl) h5
    have h9 : d_lot_without [ag (tD s.2), ag (.int x.1)] = _ := e_lot_without ll
    have h10 : sSet 3 (calE d_lot_without (gcons (var 3) (gcons (u2 (vl2 ixD) (u2 (vl2 ixD) (var 4) (cst (.int 0))) (cst (.int 0))) gnil))) (fR n es (s.1 ++ [x], s.2) a (.own (.list ((x :: r).map prD)))) = ret (.nx (fR n es (s.1 ++ [x], s.2.filter fun y => !decide (y = x.1)) a (.own (.list ((x :: r).map prD))))) :=
      set_ev (cal_ev (gs := [ag (tD s.2), ag (.int x.1)]) (g_cons rfl rfl (g_cons (u2_ev (rd_ev (h4 _ (.inr rfl)) rfl) (rd_ev (rr := .val (.int 0)) rfl rfl) (vl2_ev rfl)) rfl rfl)) h9) rfl (show 3 < 5 by decide)
    exact (seq_nx h2).trans ((if_t ht).trans ((seq_nx h6).trans h10))
theorem fold_l1 : ∀ (l : List Int) (s : List Pr × List Int) (a b : Sl), FI n es s → ∃ a' b', forGo (tName 1) d_folded_of_b1 (l.map D.int) (fR n es s a b) = ret (.nx (fR n es (fdd n es l.length s) a' b'))
  | [], s, a, b, I => ⟨a, b, rfl⟩
  | x :: l, s, a, b, I => by
    obtain ⟨b', hb⟩ := fold_b1 o (a := .fz (.int x)) (b := b) I
    have go : forGo (tName 1) d_folded_of_b1 ((x :: l).map D.int) (fR n es s a b) = bnd (d_folded_of_b1 (fR n es s (.fz (.int x)) b)) fun f => match f with
      | .nx ρ' => forGo (tName 1) d_folded_of_b1 (l.map D.int) ρ'
      | .ct ρ' => forGo (tName 1) d_folded_of_b1 (l.map D.int) ρ'
      | .bk ρ' => ret (.nx ρ')
      | .rt r => ret (.rt r) := rfl
    rw [go, hb]
    exact fold_l1 l _ _ _ (fi_step o I)
end
end HK

set_option Elab.async false
set_option linter.all false
set_option maxRecDepth 100000
/-! M52k: fold_row. -/
namespace HK
open PySem PV
theorem par_ev {i j : Nat} {a b : EX} {ρ : Rho} {r1 r2 : Rr} {x y : Sl} (h1 : a ρ = PV.ret r1) (h2 : r1.nal = some x) (h3 : b ρ = PV.ret r2) (h4 : r2.nal = some y) (h5 : i < ρ.length ∧ j < ρ.length) : sPar i j a b ρ = PV.ret (.nx ((ρ.set i x).set j y)) := by
  unfold sPar
  rw [h1]
  show bnd (opt r1.nal) _ = _
  rw [h2]
  show bnd (b ρ) _ = _
  rw [h3]
  show bnd (opt r2.nal) _ = _
  rw [h4]
  show (if i < ρ.length ∧ j < ρ.length then _ else _) = _
  rw [if_pos h5]
theorem for_ev {w : WX} {tg : TX} {b : SX} {ρ : Rho} {xs : List D} {f : Fl} (h1 : w ρ = PV.ret xs) (h2 : forGo tg b xs ρ = PV.ret f) : sFor w tg b ρ = PV.ret f := by unfold sFor; rw [h1]; exact h2
section
variable {n : Nat} {es : List Pr} (o : OkW n es)
include o
theorem e_folded_of : d_folded_of [ag (wD n es)] = ret (.val (.tuple [.list ((fdd n es n ([], ups n)).1.map prD), tD (fdd n es n ([], ups n)).2])) := by
  have h1 := e_places_of o
  obtain ⟨a, b, h2⟩ := fold_l1 o (ups n) ([], ups n) .un .un (fi_start o)
  rw [ups_len] at h2
  generalize hs : fdd n es n ([], ups n) = s at h2 ⊢
  have l2 : 2 ≤ lim := limB (by omega)
  have h3 : u1 (vl tupD) (calE d_places_of (gcons (var 0) gnil)) [.rd (wD n es), .un, .un, .un, .un] = ret (.val (tD (ups n))) :=
    u1_ev (rd_ev (cal_ev (gs := [ag (wD n es)]) rfl h1) rfl) (vl_ev rfl)
  have h4 : sPar 2 3 (lstE lnil) (u1 (vl tupD) (calE d_places_of (gcons (var 0) gnil))) [.rd (wD n es), .un, .un, .un, .un] = ret (.nx (fR n es ([], ups n) .un .un)) :=
    par_ev (r1 := .fr (.list [])) rfl rfl h3 rfl ⟨(show 2 < 5 by decide), (show 3 < 5 by decide)⟩
  have hw : wSeq false (calE d_places_of (gcons (var 0) gnil)) (fR n es ([], ups n) .un .un) = ret ((ups n).map D.int) := wseq_ev (cal_ev (gs := [ag (wD n es)]) rfl h1) rfl rfl
  have h5 : d_folded_of_l1 (fR n es ([], ups n) .un .un) = ret (.nx (fR n es s a b)) := for_ev hw h2
  exact fn_rt rfl ((seq_nx h4).trans ((seq_nx h5).trans ((seq_nx (t := sSeq (sFixM 3) (sRet (tupE (lcons (var 2) (lcons (var 3) lnil))))) (ρ' := [.rd (wD n es), a, .fz (.list (s.1.map prD)), .fz (tD s.2), b]) rfl).trans ((seq_nx (ρ' := [.rd (wD n es), a, .fz (.list (s.1.map prD)), .fz (tD s.2), b]) rfl).trans
    (ret_ev (tup_ev (ds := [.list (s.1.map prD), tD s.2]) rfl l2) rfl)))))
theorem e_fold_row : d_fold_row [ag (wD n es)] = ret (.val (.tuple ((fdd n es n ([], ups n)).1.map prD))) := by
  have h1 := e_check_web o
  have h2 := e_folded_of o
  exact fn_rt rfl ((seq_nx (drop_ev (cal_ev (gs := [ag (wD n es)]) rfl h1))).trans (ret_ev (u1_ev (rd_ev (u2_ev (rd_ev (cal_ev (gs := [ag (wD n es)]) rfl h2) rfl) (rd_ev (rr := .val (.int 0)) rfl rfl) (vl2_ev rfl)) rfl) (vl_ev rfl)) rfl))
end
end HK

set_option Elab.async false
set_option linter.all false
set_option maxRecDepth 100000
/-! M52l: what the law's own round asks. -/
namespace HK
open PySem PV
/-- the law's closing test for a step to t, the number v -/
def lcl (n : Nat) (es : List Pr) (T : Tn) (v : Int) (t h : Int) : Bool := decide (t = h) || (lgo n es h).all fun u => decide (((lk T (t, u)).getD v) < v)
section
variable {n : Nat} {es : List Pr} (o : OkW n es)
include o
/-- at the round v all known values lie below v, and t itself is a way of h only if the pair (t, t) is known: so the law's test is the program's -/
theorem lcl_dcl {T : Tn} {v : Int} (vb : ∀ a w, lk T a = some w → w < v) (dg : ∀ p : Int, 0 ≤ p → p < n → (lk T (p, p)).isSome = true) {t h : Int} (h0 : 0 ≤ h) (h1 : h < n) : lcl n es T v t h = dcl n es T t h := by
  unfold lcl dcl
  congr 1
  rw [Bool.eq_iff_iff, List.all_eq_true, List.all_eq_true]
  have key : ∀ u, decide (((lk T (t, u)).getD v) < v) = (lk T (t, u)).isSome := by
    intro u
    cases e : lk T (t, u) with
    | none => simp
    | some w => simpa using vb _ _ e
  constructor
  · intro f u hu
    have hu := (List.mem_filter.mp hu).1
    have := f u ((mem_lgo o h0 h1).mpr hu)
    rwa [key] at this
  · intro f u hu
    have hg := (mem_lgo o h0 h1).mp hu
    rw [key]
    by_cases e : u = t
    · subst e
      have r := (mem_goes.mp hg).1
      exact dg _ r.1 r.2
    · exact f u (List.mem_filter.mpr ⟨hg, by simpa using e⟩)
end
end HK

set_option Elab.async false
set_option linter.all false
set_option maxRecDepth 100000
/-! M52m: the law's draws. -/
namespace HK
open PySem PV
theorem lc_goes_len {n : Nat} {es : List Pr} (o : OkW n es) {p : Int} : (lgo n es p).length ≤ 6 := by
  have n5 := o.n5
  have := near_len (n := n) (es := es) (p := p)
  unfold lgo
  simp
  omega
/-- a list of answers' mere shape: the law's closing list is not empty just when a step closes -/
theorem lcl_any {n : Nat} {es : List Pr} (o : OkW n es) {T : Tn} {v : Int} (vb : ∀ a w, lk T a = some w → w < v) (dg : ∀ p : Int, 0 ≤ p → p < n → (lk T (p, p)).isSome = true) {a : Pr} (ha : a ∈ pairs n) :
    ((lgo n es a.1).filter fun t => lcl n es T v t a.2).isEmpty = (cm n es T a).isEmpty := by
  have h := mem_pairs.mp ha
  have hc : cm n es T a ≠ [] ↔ ((lgo n es a.1).filter fun t => lcl n es T v t a.2) ≠ [] := by
    rw [cm_ne]
    constructor
    · rintro ⟨t, ht, d⟩
      exact List.ne_nil_of_mem (a := t) (List.mem_filter.mpr ⟨(mem_lgo o h.1.1 h.1.2).mpr ht, by rw [lcl_dcl o vb dg h.2.1 h.2.2]; exact d⟩)
    · intro hn
      obtain ⟨t, ht⟩ := List.exists_mem_of_ne_nil _ hn
      have ht := List.mem_filter.mp ht
      exact ⟨t, (mem_lgo o h.1.1 h.1.2).mp ht.1, by rw [← lcl_dcl o vb dg h.2.1 h.2.2]; exact ht.2⟩
  rw [Bool.eq_iff_iff, List.isEmpty_iff, List.isEmpty_iff]
  constructor
  · intro e; exact Classical.byContradiction fun c => hc.mp c e
  · intro e; exact Classical.byContradiction fun c => hc.mpr c e
end HK

set_option Elab.async false
set_option linter.all false
set_option maxRecDepth 100000
/-! M52n: the law's closing list. -/
namespace HK
open PySem PV
def clR (n : Nat) (es : List Pr) (T : Tn) (v : Int) (a : Pr) (acc : List Int) (x : Sl) : Rho := [.rd (wD n es), .rd (prD a), .rd (.dt (tnD T)), .rd (.int v), .own (.list (acc.map D.int)), x, .un]
section
variable {n : Nat} {es : List Pr} (o : OkW n es)
include o
theorem closes_c1 {T : Tn} {v : Int} {a : Pr} {acc : List Int} {t : Int} : d__law_closes_c1 (clR n es T v a acc (.fz (.int t))) = ret (.fr (.list ((lgo n es a.2).map fun u => D.bool (decide ((lk T (t, u)).getD v < v))))) := by
  have h4 := e__law_goes o a.2
  have l2 : 2 ≤ lim := limB (by omega)
  refine lc_mapY (f := D.int) (l := lgo n es a.2) (wseq_ev (cal_ev (gs := [ag (wD n es), ag (.int a.2)]) (g_cons rfl rfl (g_cons (u2_ev (rd_ev (rr := .val (prD a)) rfl rfl) (rd_ev (rr := .val (.int 1)) rfl rfl) (vl2_ev rfl)) rfl rfl)) h4) rfl rfl) (fun u hu => ⟨[.rd (wD n es), .rd (prD a), .rd (.dt (tnD T)), .rd (.int v), .rd (.list (acc.map D.int)), .fz (.int t), .fz (.int u)], rfl, ?_⟩) (limB (by have := lc_goes_len o (p := a.2); omega))
  have hd := dget_tn T (t, u)
  have hg := get2_ev (ρ := [.rd (wD n es), .rd (prD a), .rd (.dt (tnD T)), .rd (.int v), .rd (.list (acc.map D.int)), .fz (.int t), .fz (.int u)]) (a := var 2) (c := tupE (lcons (var 5) (lcons (var 6) lnil))) (e := var 3) (y := .int v) (rd_ev (rr := .al 2) rfl rfl) rfl (rd_ev (tup_ev (ds := [.int t, .int u]) rfl l2) rfl) rfl hd
  have e : ((lk T (t, u)).map D.int).getD (.int v) = .int ((lk T (t, u)).getD v) := by cases lk T (t, u) <;> rfl
  rw [e] at hg
  exact fz_ev (u2_ev (rd_ev hg rfl) (rd_ev (rr := .val (.int v)) rfl rfl) (vl2_ev rfl)) rfl
end
end HK

set_option Elab.async false
set_option linter.all false
set_option maxRecDepth 100000
/-! M52o: the law's closings. -/
namespace HK
open PySem PV
local macro_rules | `(tactic| walk_at "op") => `(tactic| with_reducible first | exact eqD_int _ _ | exact neD_int _ _ | exact eqD_pr _ _ | exact neD_pr _ _ | exact ltD_int _ _ | exact inD_ints1 _ _ | exact inD_ints2 _ _ | exact ninD_ints1 _ _ | exact ninD_ints2 _ _ | exact inD_prs1 _ _ | exact inD_prs2 _ _ | exact ninD_prs1 _ _ | exact ninD_prs2 _ _ | exact dget_tn _ _ | exact inD_tn _ _ | exact ninD_tn _ _ | exact dget_tn' _ _ _ | exact inD_tn' _ _ _ | exact ninD_tn' _ _ _ | exact inD_prs1' _ _ _ | exact inD_prs2' _ _ _ | exact ninD_prs1' _ _ _ | exact ninD_prs2' _ _ _ | exact eqD_pr' _ _ _ _ | exact neD_pr' _ _ _ _ | exact sortE_ints _ | exact sortE_prs _ | exact mulD_r _ _ (by with_unfolding_all rfl) | exact mulD_l _ _ (by with_unfolding_all rfl) | exact modD_pos _ _ (by decide) | exact sumD_ints _ | exact all_map _ _ | exact eqD_bool _ _ | exact neD_bool _ _)
local macro_rules | `(tactic| walk_at "call") => `(tactic| fail)
local macro_rules | `(tactic| walk_at "ev1") => `(tactic| first
  | ((with_reducible refine v_sqnx ?_); try dsimp only [List.set])
  | with_reducible refine v_seq ?_
  | ((with_reducible apply v_fn); rfl; (repeat first | exact En.nil | apply En.consD | apply En.consP | apply En.un))
  | with_reducible refine v_rd ?_
  | with_reducible refine v_fz ?_
  | ((with_reducible apply v_opt); (first | walk_at "op" | ((fail_if_success with_reducible first | refine isEqD ?_ | refine isNeD ?_ | refine isInD ?_ | refine isNinD ?_ | refine isSort ?_ | refine isAll ?_ | refine isAny ?_ | refine isSum ?_ | refine isMax ?_ | refine isMin ?_ | refine isIndex ?_ | refine isMod ?_ | refine isPow ?_); rfl)))
  | ((with_reducible apply v_var_fz); rfl)
  | ((with_reducible apply v_var_own); rfl)
  | ((with_reducible apply v_var_rd); rfl; rfl)
  | ((with_reducible apply v_var_bx); rfl; rfl)
  | ((with_reducible apply v_var_pot); rfl)
  | ((with_reducible apply v_var_V); rfl; assumption)
  | ((with_reducible apply v_fixV); rfl; assumption)
  | with_reducible refine v_cst ?_
  | with_reducible refine v_u2 ?_
  | with_reducible refine v_u1 ?_
  | with_reducible refine v_plusI ?_
  | with_reducible refine v_plusL ?_
  | with_reducible refine v_plusT ?_
  | with_reducible refine v_vl2 ?_
  | with_reducible refine v_vl ?_
  | with_reducible refine v_nw ?_
  | with_reducible refine v_nw2 ?_
  | with_reducible refine v_tst ?_
  | with_reducible refine v_bK ?_
  | with_reducible refine v_iK ?_
  | with_reducible refine v_c2K ?_
  | with_reducible refine v_cal ?_
  | with_reducible refine v_gcons ?_
  | with_reducible refine v_gnil ?_
  | with_reducible refine v_lcons ?_
  | with_reducible refine v_lnil ?_
  | with_reducible refine v_lstar ?_
  | with_reducible refine v_tup ?_
  | with_reducible refine v_lst ?_
  | with_reducible refine v_sset ?_
  | with_reducible refine v_sif ?_
  | with_reducible refine v_sret ?_
  | with_reducible refine v_drop ?_
  | with_reducible refine v_nil ?_
  | with_reducible refine v_asg ?_
  | with_reducible refine v_break ?_
  | with_reducible refine v_cont ?_
  | ((with_reducible apply v_fixO); rfl)
  | ((with_reducible apply v_fixF); rfl)
  | ((with_reducible apply v_fixR); rfl)
  | ((with_reducible apply v_fixU); rfl)
  | ((with_reducible apply v_fix); rfl)
  | ((with_reducible apply v_own1); rfl; rfl)
  | ((with_reducible apply v_own2); rfl; rfl)
  | ((with_reducible apply v_own0); rfl; rfl; rfl; exact Nat.le_of_ble_eq_true rfl)
  | ((with_reducible apply v_put); rfl)
  | ((with_reducible refine v_par ?_ ?_); exact ⟨Nat.le_of_ble_eq_true rfl, Nat.le_of_ble_eq_true rfl⟩)
  | with_reducible refine v_for ?_
  | with_reducible refine v_wseq ?_
  | with_reducible refine v_rng1 ?_
  | with_reducible refine v_rng2 ?_
  | with_reducible refine v_tand ?_
  | with_reducible refine v_tor ?_
  | with_reducible refine v_tnot ?_
  | with_reducible refine v_yes ?_
  | with_reducible refine v_ife ?_
  | with_reducible refine v_pand ?_
  | with_reducible refine v_por ?_
  | with_reducible refine v_pnot ?_
  | with_reducible refine v_chn ?_
  | with_reducible refine v_get1 ?_
  | with_reducible refine v_get2 ?_
  | with_reducible refine v_ind ?_
  | with_reducible refine v_newK ?_
  | with_reducible refine v_newT ?_
  | with_reducible refine v_sle ?_
  | with_reducible refine v_ono ?_
  | with_reducible refine v_osome ?_
  | with_reducible refine v_sqrt ?_
  | with_reducible refine v_rKrt ?_
  | with_reducible refine v_rKnx ?_
  | with_reducible refine v_fKnx ?_
  | with_reducible refine v_fKrt ?_
  | with_reducible refine v_fKbk ?_
  | with_reducible refine v_fKct ?_
  | with_reducible refine v_sqbk ?_
  | with_reducible refine v_sqct ?_
  | with_reducible refine v_iteT ?_
  | with_reducible refine v_iteF ?_
  | with_reducible refine And.intro (Nat.le_of_ble_eq_true rfl) ?_
  | refine And.intro rfl ?_
  | ((with_reducible apply v_ifF); rfl)
  | ((with_reducible apply v_ifT); rfl)
  | walk_at "call")
section
variable {n : Nat} {es : List Pr} (o : OkW n es)
include o
theorem law_closes_b1 {T : Tn} {v : Int} {a : Pr} {acc : List Int} {t : Int} (hl : acc.length < 100) {J : Rho → Prop} {P : Fl → Prop} (k : J (clR n es T v a (if lcl n es T v t a.2 = true then acc ++ [t] else acc) (.fz (.int t)))) :
    d__law_closes_b1 (clR n es T v a acc (.fz (.int t))) (fK J P) := by
  have hc := closes_c1 o (T := T) (v := v) (a := a) (acc := acc) (t := t)
  have h5 := all_map (fun u => decide ((lk T (t, u)).getD v < v)) (lgo n es a.2)
  have ha : appD (.list (acc.map D.int)) (.int t) = some (.list ((acc ++ [t]).map D.int)) := by
    show (if (acc.map D.int).length < lim then some (D.list (acc.map D.int ++ [.int t])) else none) = _
    rw [if_pos (by rw [List.length_map]; unfold lim; omega), List.map_append]; rfl
  unfold d__law_closes_b1
  unfold clR at hc k ⊢
  unfold lcl at k
  repeat walk_at "ev1"
  refine v_ite (fun e => ?_) (fun e => ?_)
  · rw [e, Bool.true_or, if_pos rfl] at k
    repeat walk_at "ev1"
    refine v_opt ha ?_
    repeat walk_at "ev1"
    exact k
  · rw [e, Bool.false_or] at k
    repeat walk_at "ev1"
    refine v_of hc ?_
    repeat walk_at "ev1"
    refine v_ite (fun e2 => ?_) (fun e2 => ?_)
    · rw [e2, if_pos rfl] at k
      repeat walk_at "ev1"
      refine v_opt ha ?_
      repeat walk_at "ev1"
      exact k
    · rw [e2] at k
      repeat walk_at "ev1"
      exact k
theorem e__law_closes {T : Tn} {v : Int} {a : Pr} : Ev (d__law_closes [ag (wD n es), ag (prD a), ag (.dt (tnD T)), ag (.int v)]) (.fr (.list ((isort ((lgo n es a.1).filter fun t => lcl n es T v t a.2)).map D.int))) := fun P k => by
  have h4 := e__law_goes o a.1
  have gl := lc_goes_len o (p := a.1)
  unfold d__law_closes
  repeat walk_at "ev1"
  unfold d__law_closes_l1
  repeat walk_at "ev1"
  refine v_of h4 ?_
  repeat walk_at "ev1"
  refine v_forGo (fun pre ρ => ∃ x, ρ = clR n es T v a (pre.filter fun t => lcl n es T v t a.2) x) ⟨_, rfl⟩ (fun pre t post ρ e ⟨x, hx⟩ => ?_) (fun ρ ⟨x, hx⟩ => ?_)
  · subst hx
    refine ⟨_, rfl, fun J hJ => ?_⟩
    have l1 : pre.length < 100 := by have := congrArg List.length e; rw [List.length_append, List.length_cons] at this; omega
    have l2 := List.length_filter_le (fun t => lcl n es T v t a.2) pre
    refine law_closes_b1 o (by omega) (hJ _ ⟨.fz (.int t), ?_⟩)
    rw [List.filter_append]
    by_cases c : lcl n es T v t a.2 = true
    · rw [if_pos c, List.filter_cons, if_pos c]; rfl
    · rw [if_neg c, List.filter_cons, if_neg c, List.filter_nil, List.append_nil]
  · subst hx
    unfold clR
    repeat walk_at "ev1"
    exact k
end
end HK

set_option Elab.async false
set_option linter.all false
set_option maxRecDepth 100000
/-! M52p: the law's turns. -/
namespace HK
open PySem PV
local macro_rules | `(tactic| walk_at "op") => `(tactic| with_reducible first | exact eqD_int _ _ | exact neD_int _ _ | exact eqD_pr _ _ | exact neD_pr _ _ | exact ltD_int _ _ | exact inD_ints1 _ _ | exact inD_ints2 _ _ | exact ninD_ints1 _ _ | exact ninD_ints2 _ _ | exact inD_prs1 _ _ | exact inD_prs2 _ _ | exact ninD_prs1 _ _ | exact ninD_prs2 _ _ | exact dget_tn _ _ | exact inD_tn _ _ | exact ninD_tn _ _ | exact dget_tn' _ _ _ | exact inD_tn' _ _ _ | exact ninD_tn' _ _ _ | exact inD_prs1' _ _ _ | exact inD_prs2' _ _ _ | exact ninD_prs1' _ _ _ | exact ninD_prs2' _ _ _ | exact eqD_pr' _ _ _ _ | exact neD_pr' _ _ _ _ | exact sortE_ints _ | exact sortE_prs _ | exact mulD_r _ _ (by with_unfolding_all rfl) | exact mulD_l _ _ (by with_unfolding_all rfl) | exact modD_pos _ _ (by decide) | exact sumD_ints _ | exact all_map _ _ | exact eqD_bool _ _ | exact neD_bool _ _)
local macro_rules | `(tactic| walk_at "call") => `(tactic| fail)
local macro_rules | `(tactic| walk_at "ev1") => `(tactic| first
  | ((with_reducible refine v_sqnx ?_); try dsimp only [List.set])
  | with_reducible refine v_seq ?_
  | ((with_reducible apply v_fn); rfl; (repeat first | exact En.nil | apply En.consD | apply En.consP | apply En.un))
  | with_reducible refine v_rd ?_
  | with_reducible refine v_fz ?_
  | ((with_reducible apply v_opt); (first | walk_at "op" | ((fail_if_success with_reducible first | refine isEqD ?_ | refine isNeD ?_ | refine isInD ?_ | refine isNinD ?_ | refine isSort ?_ | refine isAll ?_ | refine isAny ?_ | refine isSum ?_ | refine isMax ?_ | refine isMin ?_ | refine isIndex ?_ | refine isMod ?_ | refine isPow ?_); rfl)))
  | ((with_reducible apply v_var_fz); rfl)
  | ((with_reducible apply v_var_own); rfl)
  | ((with_reducible apply v_var_rd); rfl; rfl)
  | ((with_reducible apply v_var_bx); rfl; rfl)
  | ((with_reducible apply v_var_pot); rfl)
  | ((with_reducible apply v_var_V); rfl; assumption)
  | ((with_reducible apply v_fixV); rfl; assumption)
  | with_reducible refine v_cst ?_
  | with_reducible refine v_u2 ?_
  | with_reducible refine v_u1 ?_
  | with_reducible refine v_plusI ?_
  | with_reducible refine v_plusL ?_
  | with_reducible refine v_plusT ?_
  | with_reducible refine v_vl2 ?_
  | with_reducible refine v_vl ?_
  | with_reducible refine v_nw ?_
  | with_reducible refine v_nw2 ?_
  | with_reducible refine v_tst ?_
  | with_reducible refine v_bK ?_
  | with_reducible refine v_iK ?_
  | with_reducible refine v_c2K ?_
  | with_reducible refine v_cal ?_
  | with_reducible refine v_gcons ?_
  | with_reducible refine v_gnil ?_
  | with_reducible refine v_lcons ?_
  | with_reducible refine v_lnil ?_
  | with_reducible refine v_lstar ?_
  | with_reducible refine v_tup ?_
  | with_reducible refine v_lst ?_
  | with_reducible refine v_sset ?_
  | with_reducible refine v_sif ?_
  | with_reducible refine v_sret ?_
  | with_reducible refine v_drop ?_
  | with_reducible refine v_nil ?_
  | with_reducible refine v_asg ?_
  | with_reducible refine v_break ?_
  | with_reducible refine v_cont ?_
  | ((with_reducible apply v_fixO); rfl)
  | ((with_reducible apply v_fixF); rfl)
  | ((with_reducible apply v_fixR); rfl)
  | ((with_reducible apply v_fixU); rfl)
  | ((with_reducible apply v_fix); rfl)
  | ((with_reducible apply v_own1); rfl; rfl)
  | ((with_reducible apply v_own2); rfl; rfl)
  | ((with_reducible apply v_own0); rfl; rfl; rfl; exact Nat.le_of_ble_eq_true rfl)
  | ((with_reducible apply v_put); rfl)
  | ((with_reducible refine v_par ?_ ?_); exact ⟨Nat.le_of_ble_eq_true rfl, Nat.le_of_ble_eq_true rfl⟩)
  | with_reducible refine v_for ?_
  | with_reducible refine v_wseq ?_
  | with_reducible refine v_rng1 ?_
  | with_reducible refine v_rng2 ?_
  | with_reducible refine v_tand ?_
  | with_reducible refine v_tor ?_
  | with_reducible refine v_tnot ?_
  | with_reducible refine v_yes ?_
  | with_reducible refine v_ife ?_
  | with_reducible refine v_pand ?_
  | with_reducible refine v_por ?_
  | with_reducible refine v_pnot ?_
  | with_reducible refine v_chn ?_
  | with_reducible refine v_get1 ?_
  | with_reducible refine v_get2 ?_
  | with_reducible refine v_ind ?_
  | with_reducible refine v_newK ?_
  | with_reducible refine v_newT ?_
  | with_reducible refine v_sle ?_
  | with_reducible refine v_ono ?_
  | with_reducible refine v_osome ?_
  | with_reducible refine v_sqrt ?_
  | with_reducible refine v_rKrt ?_
  | with_reducible refine v_rKnx ?_
  | with_reducible refine v_fKnx ?_
  | with_reducible refine v_fKrt ?_
  | with_reducible refine v_fKbk ?_
  | with_reducible refine v_fKct ?_
  | with_reducible refine v_sqbk ?_
  | with_reducible refine v_sqct ?_
  | with_reducible refine v_iteT ?_
  | with_reducible refine v_iteF ?_
  | with_reducible refine And.intro (Nat.le_of_ble_eq_true rfl) ?_
  | refine And.intro rfl ?_
  | ((with_reducible apply v_ifF); rfl)
  | ((with_reducible apply v_ifT); rfl)
  | walk_at "call")
theorem prsT_tn : ∀ S : Tn, prsT (S.map fun q => D.tuple [prD q.1, .int q.2]) = some (tnD S)
  | [] => rfl
  | (a, v) :: S => by
    show (match tkOf (prD a), prsT (S.map fun q => D.tuple [prD q.1, .int q.2]) with | some k, some ps => some ((k, D.int v) :: ps) | _, _ => none) = _
    rw [prsT_tn S, tkOf_pr]; rfl
def lR (n : Nat) (es : List Pr) (L : List Pr) (a t b c : Sl) : Rho := [.rd (wD n es), .own (.list (L.map prD)), a, t, b, c, .un, .un]
section
variable {n : Nat} {es : List Pr} (o : OkW n es)
include o
theorem diag_pairs : (pairs n).filter (fun a => decide (a.1 = a.2)) = (ups n).map fun p => (p, p) := by
  have h := o.n3
  have h2 := o.n5
  have hn : n = 3 ∨ n = 4 ∨ n = 5 := by omega
  rcases hn with e | e | e <;> rw [e] <;> decide
theorem law_turns_c1 {L : List Pr} {p : Int} {t b c : Sl} (hL : L.length ≤ 100) : Ev (d__law_turns_c1 (lR n es L (.fz (.int p)) t b c)) (.fr (.list ((ups n).map fun q => prD (p, q)))) := fun P k => by
  have n5 := o.n5
  have hr := okRng0 (n := n) (by omega)
  unfold d__law_turns_c1
  refine v_ev (lc_EvY (f := D.int) (l := ups n) (g := fun q => prD (p, q)) ?_ (fun q hq => ⟨(lR n es L (.fz (.int p)) t b c |> inb [7]).set 7 (.fz (.int q)), rfl, ?_⟩) (limB (by rw [ups_len]; omega))) k
  · intro P k
    unfold lR
    repeat walk_at "ev1"
    refine ⟨hr, ?_⟩
    rw [rng_ups]; exact k
  · intro P k
    unfold lR inb
    repeat walk_at "ev1"
    exact k
theorem law_turns_l1 {P : Fl → Prop} (k : ∀ x, P (.nx (lR n es (pairs n) x .un .un .un))) : d__law_turns_l1 (lR n es [] .un .un .un .un) P := by
  have n5 := o.n5
  have hr := okRng0 (n := n) (by omega)
  unfold d__law_turns_l1 lR
  repeat walk_at "ev1"
  refine ⟨hr, ?_⟩
  rw [rng_ups]
  refine v_forGo (fun pre ρ => ∃ x, ρ = lR n es (pre.flatMap fun p => (ups n).map fun q => (p, q)) x .un .un .un) ⟨.un, rfl⟩ (fun pre p post ρ e ⟨x, hx⟩ => ?_) (fun ρ ⟨x, hx⟩ => ?_)
  · subst hx
    refine ⟨lR n es (pre.flatMap fun p => (ups n).map fun q => (p, q)) (.fz (.int p)) .un .un .un, rfl, fun J hJ => ?_⟩
    have hl : (pre.flatMap fun p => (ups n).map fun q => (p, q)).length ≤ 20 := by
      rw [flat_len (m := n) pre (fun a _ => by rw [List.length_map, ups_len])]
      have := congrArg List.length e
      rw [List.length_append, List.length_cons, ups_len] at this
      have hp : pre.length ≤ 4 := by omega
      have := Nat.mul_le_mul n5 hp
      omega
    have hc := law_turns_c1 o (L := pre.flatMap fun p => (ups n).map fun q => (p, q)) (p := p) (t := .un) (b := .un) (c := .un) (by omega)
    have hj := hJ (lR n es ((pre ++ [p]).flatMap fun p => (ups n).map fun q => (p, q)) (.fz (.int p)) .un .un .un) ⟨_, rfl⟩
    rw [List.flatMap_append, List.flatMap_cons, List.flatMap_nil, List.append_nil] at hj
    generalize (pre.flatMap fun p => (ups n).map fun q => (p, q)) = L at hc hl hj ⊢
    have hp : (L.map prD).length + ((ups n).map fun q => prD (p, q)).length ≤ lim := limB (by rw [List.length_map, List.length_map, ups_len]; omega)
    unfold d__law_turns_b1
    unfold lR at hc hj ⊢
    rw [List.map_append, List.map_map] at hj
    repeat walk_at "ev1"
    refine hc _ ?_
    repeat walk_at "ev1"
    refine ⟨hp, ?_⟩
    repeat walk_at "ev1"
    exact hj
  · subst hx
    exact k x
theorem law_turns_c2 {x : Sl} : Ev (d__law_turns_c2 (lR n es (pairs n) x .un .un .un)) (.fr (.list ((diag n).map fun q => .tuple [prD q.1, .int q.2]))) := fun P k => by
  have pl := pairs_len n
  have s := sq o
  unfold d__law_turns_c2
  have e : (diag n).map (fun q => D.tuple [prD q.1, .int q.2]) = ((pairs n).filter fun a => decide (a.1 = a.2)).map fun a => D.tuple [prD a, .int 0] := by
    rw [diag_pairs o]
    unfold diag
    rw [List.map_map, List.map_map]
    rfl
  rw [e] at k
  refine v_ev (lc_Ev (f := prD) (l := pairs n) (b := fun a => decide (a.1 = a.2)) (g := fun a => D.tuple [prD a, .int 0]) ?_ (fun a ha => ⟨(lR n es (pairs n) x .un .un .un |> inb [6]).set 6 (.fz (prD a)), rfl, ?_, fun _ => ?_⟩) (by rw [pl]; exact limB (by omega))) k
  · intro P k
    unfold lR
    repeat walk_at "ev1"
    exact k
  · intro P k
    unfold lR inb
    repeat walk_at "ev1"
    exact k
  · intro P k
    unfold lR inb
    repeat walk_at "ev1"
    exact k
theorem law_turns_c3 {T : Tn} {i : Int} {x c : Sl} (I : RI n es i T) : Ev (d__law_turns_c3 (lR n es (pairs n) x (.own (.dt (tnD T))) (.fz (.int i)) c)) (.fr (.list ((fresh n es T).map prD))) := fun P k => by
  have pl := pairs_len n
  have s := sq o
  unfold d__law_turns_c3
  have hdg : ∀ p : Int, 0 ≤ p → p < n → (lk T (p, p)).isSome = true := fun p h0 h1 => by rw [I.d0 p h0 h1]; rfl
  refine v_ev (lc_Ev (f := prD) (l := pairs n) (b := fun a => !(lk T a).isSome && !(cm n es T a).isEmpty) (g := prD) ?_ (fun a ha => ⟨(lR n es (pairs n) x (.own (.dt (tnD T))) (.fz (.int i)) c |> inb [6]).set 6 (.fz (prD a)), rfl, ?_, fun _ => ?_⟩) (by rw [pl]; exact limB (by omega))) k
  · intro P k
    unfold lR
    repeat walk_at "ev1"
    exact k
  · intro P k
    have hc := e__law_closes o (T := T) (v := i) (a := a)
    have ha := lcl_any o (fun a w h => (I.vb a w h).2) hdg ha
    have h6 := neD_nil (shp_ints1 (isort ((lgo n es a.1).filter fun t => lcl n es T i t a.2)))
    have e : (isort ((lgo n es a.1).filter fun t => lcl n es T i t a.2)).isEmpty = ((lgo n es a.1).filter fun t => lcl n es T i t a.2).isEmpty := by
      have := (isort_perm ((lgo n es a.1).filter fun t => lcl n es T i t a.2)).length_eq
      rw [Bool.eq_iff_iff, List.isEmpty_iff_length_eq_zero, List.isEmpty_iff_length_eq_zero, this]
    have e2 : ((isort ((lgo n es a.1).filter fun t => lcl n es T i t a.2)).map D.int).isEmpty = (isort ((lgo n es a.1).filter fun t => lcl n es T i t a.2)).isEmpty := by
      rw [Bool.eq_iff_iff, List.isEmpty_iff_length_eq_zero, List.isEmpty_iff_length_eq_zero, List.length_map]
    rw [e2, e, ha] at h6
    generalize (isort ((lgo n es a.1).filter fun t => lcl n es T i t a.2)).map D.int = L at hc h6
    unfold lR inb
    repeat walk_at "ev1"
    refine v_ite (fun e => ?_) (fun e => ?_)
    · rw [e] at k
      repeat walk_at "ev1"
      refine hc _ ?_
      repeat walk_at "ev1"
      refine v_opt h6 ?_
      repeat walk_at "ev1"
      exact k
    · rw [e] at k
      exact k
  · intro P k
    unfold lR inb
    repeat walk_at "ev1"
    exact k
end
end HK

set_option Elab.async false
set_option linter.all false
set_option maxRecDepth 100000
/-! M52q: the law's turns, the loop. -/
namespace HK
open PySem PV
local macro_rules | `(tactic| walk_at "op") => `(tactic| with_reducible first | exact eqD_int _ _ | exact neD_int _ _ | exact eqD_pr _ _ | exact neD_pr _ _ | exact ltD_int _ _ | exact inD_ints1 _ _ | exact inD_ints2 _ _ | exact ninD_ints1 _ _ | exact ninD_ints2 _ _ | exact inD_prs1 _ _ | exact inD_prs2 _ _ | exact ninD_prs1 _ _ | exact ninD_prs2 _ _ | exact dget_tn _ _ | exact inD_tn _ _ | exact ninD_tn _ _ | exact dget_tn' _ _ _ | exact inD_tn' _ _ _ | exact ninD_tn' _ _ _ | exact inD_prs1' _ _ _ | exact inD_prs2' _ _ _ | exact ninD_prs1' _ _ _ | exact ninD_prs2' _ _ _ | exact eqD_pr' _ _ _ _ | exact neD_pr' _ _ _ _ | exact sortE_ints _ | exact sortE_prs _ | exact mulD_r _ _ (by with_unfolding_all rfl) | exact mulD_l _ _ (by with_unfolding_all rfl) | exact modD_pos _ _ (by decide) | exact sumD_ints _ | exact all_map _ _ | exact eqD_bool _ _ | exact neD_bool _ _)
local macro_rules | `(tactic| walk_at "call") => `(tactic| fail)
local macro_rules | `(tactic| walk_at "ev1") => `(tactic| first
  | ((with_reducible refine v_sqnx ?_); try dsimp only [List.set])
  | with_reducible refine v_seq ?_
  | ((with_reducible apply v_fn); rfl; (repeat first | exact En.nil | apply En.consD | apply En.consP | apply En.un))
  | with_reducible refine v_rd ?_
  | with_reducible refine v_fz ?_
  | ((with_reducible apply v_opt); (first | walk_at "op" | ((fail_if_success with_reducible first | refine isEqD ?_ | refine isNeD ?_ | refine isInD ?_ | refine isNinD ?_ | refine isSort ?_ | refine isAll ?_ | refine isAny ?_ | refine isSum ?_ | refine isMax ?_ | refine isMin ?_ | refine isIndex ?_ | refine isMod ?_ | refine isPow ?_); rfl)))
  | ((with_reducible apply v_var_fz); rfl)
  | ((with_reducible apply v_var_own); rfl)
  | ((with_reducible apply v_var_rd); rfl; rfl)
  | ((with_reducible apply v_var_bx); rfl; rfl)
  | ((with_reducible apply v_var_pot); rfl)
  | ((with_reducible apply v_var_V); rfl; assumption)
  | ((with_reducible apply v_fixV); rfl; assumption)
  | with_reducible refine v_cst ?_
  | with_reducible refine v_u2 ?_
  | with_reducible refine v_u1 ?_
  | with_reducible refine v_plusI ?_
  | with_reducible refine v_plusL ?_
  | with_reducible refine v_plusT ?_
  | with_reducible refine v_vl2 ?_
  | with_reducible refine v_vl ?_
  | with_reducible refine v_nw ?_
  | with_reducible refine v_nw2 ?_
  | with_reducible refine v_tst ?_
  | with_reducible refine v_bK ?_
  | with_reducible refine v_iK ?_
  | with_reducible refine v_c2K ?_
  | with_reducible refine v_cal ?_
  | with_reducible refine v_gcons ?_
  | with_reducible refine v_gnil ?_
  | with_reducible refine v_lcons ?_
  | with_reducible refine v_lnil ?_
  | with_reducible refine v_lstar ?_
  | with_reducible refine v_tup ?_
  | with_reducible refine v_lst ?_
  | with_reducible refine v_sset ?_
  | with_reducible refine v_sif ?_
  | with_reducible refine v_sret ?_
  | with_reducible refine v_drop ?_
  | with_reducible refine v_nil ?_
  | with_reducible refine v_asg ?_
  | with_reducible refine v_break ?_
  | with_reducible refine v_cont ?_
  | ((with_reducible apply v_fixO); rfl)
  | ((with_reducible apply v_fixF); rfl)
  | ((with_reducible apply v_fixR); rfl)
  | ((with_reducible apply v_fixU); rfl)
  | ((with_reducible apply v_fix); rfl)
  | ((with_reducible apply v_own1); rfl; rfl)
  | ((with_reducible apply v_own2); rfl; rfl)
  | ((with_reducible apply v_own0); rfl; rfl; rfl; exact Nat.le_of_ble_eq_true rfl)
  | ((with_reducible apply v_put); rfl)
  | ((with_reducible refine v_par ?_ ?_); exact ⟨Nat.le_of_ble_eq_true rfl, Nat.le_of_ble_eq_true rfl⟩)
  | with_reducible refine v_for ?_
  | with_reducible refine v_wseq ?_
  | with_reducible refine v_rng1 ?_
  | with_reducible refine v_rng2 ?_
  | with_reducible refine v_tand ?_
  | with_reducible refine v_tor ?_
  | with_reducible refine v_tnot ?_
  | with_reducible refine v_yes ?_
  | with_reducible refine v_ife ?_
  | with_reducible refine v_pand ?_
  | with_reducible refine v_por ?_
  | with_reducible refine v_pnot ?_
  | with_reducible refine v_chn ?_
  | with_reducible refine v_get1 ?_
  | with_reducible refine v_get2 ?_
  | with_reducible refine v_ind ?_
  | with_reducible refine v_newK ?_
  | with_reducible refine v_newT ?_
  | with_reducible refine v_sle ?_
  | with_reducible refine v_ono ?_
  | with_reducible refine v_osome ?_
  | with_reducible refine v_sqrt ?_
  | with_reducible refine v_rKrt ?_
  | with_reducible refine v_rKnx ?_
  | with_reducible refine v_fKnx ?_
  | with_reducible refine v_fKrt ?_
  | with_reducible refine v_fKbk ?_
  | with_reducible refine v_fKct ?_
  | with_reducible refine v_sqbk ?_
  | with_reducible refine v_sqct ?_
  | with_reducible refine v_iteT ?_
  | with_reducible refine v_iteF ?_
  | with_reducible refine And.intro (Nat.le_of_ble_eq_true rfl) ?_
  | refine And.intro rfl ?_
  | ((with_reducible apply v_ifF); rfl)
  | ((with_reducible apply v_ifT); rfl)
  | walk_at "call")
section
variable {n : Nat} {es : List Pr} (o : OkW n es)
include o
theorem fresh_len {T : Tn} : (fresh n es T).length ≤ 25 := by
  have s := sq o
  have pl := pairs_len n
  have := List.length_filter_le (fun a => !(lk T a).isSome && !(cm n es T a).isEmpty) (pairs n)
  unfold fresh; omega
theorem law_turns_c4 {T : Tn} {i : Int} {x : Sl} : Ev (d__law_turns_c4 (lR n es (pairs n) x (.own (.dt (tnD T))) (.fz (.int i)) (.own (.list ((fresh n es T).map prD))))) (.fr (.list (((fresh n es T).map fun a => (a, i)).map fun q => D.tuple [prD q.1, .int q.2]))) := fun P k => by
  have fl := fresh_len o (T := T)
  rw [List.map_map] at k
  unfold d__law_turns_c4
  refine v_ev (lc_EvY (f := prD) (l := fresh n es T) (g := fun a => D.tuple [prD a, .int i]) ?_ (fun a ha => ⟨(lR n es (pairs n) x (.own (.dt (tnD T))) (.fz (.int i)) (.own (.list ((fresh n es T).map prD))) |> inb [6]).set 6 (.fz (prD a)), rfl, ?_⟩) (limB (by omega))) k
  · intro P k
    unfold lR
    repeat walk_at "ev1"
    exact k
  · intro P k
    unfold lR inb
    repeat walk_at "ev1"
    exact k
theorem upd_fresh {T : Tn} {i : Int} (I : RI n es i T) : updA (.dt (tnD T)) (.list (((fresh n es T).map fun a => (a, i)).map fun q => D.tuple [prD q.1, .int q.2])) = some (.dt (tnD (T ++ (fresh n es T).map fun a => (a, i)))) := by
  have fl := fresh_len o (T := T)
  have s := sq o
  have pl := pairs_len n
  have tl := len_sub I.nd I.sub
  rw [List.length_map] at tl
  show (if (tnD T).length + (((fresh n es T).map fun a => (a, i)).map fun q => D.tuple [prD q.1, .int q.2]).length ≤ lim then (prsT (((fresh n es T).map fun a => (a, i)).map fun q => D.tuple [prD q.1, .int q.2])).map fun qs => D.dt (putAll (tnD T) qs) else none) = _
  rw [if_pos (by unfold tnD; rw [List.length_map, List.length_map, List.length_map]; exact limB (by omega)), prsT_tn, Option.map_some]
  have fnd : (fresh n es T).Nodup := (pairs_nodup n).filter _
  rw [putAll_tn o (by
    rw [List.map_map]
    have e : (fresh n es T).map ((fun x : Pr × Int => x.1) ∘ fun a => (a, i)) = fresh n es T := by simp [Function.comp_def]
    rw [e, List.nodup_append]
    refine ⟨I.nd, fnd, fun x hx y hy e => ?_⟩
    subst e
    exact lk_none.mp (fresh_sub o hy).2.1 hx)]
theorem law_turns_b2 {T : Tn} {i : Int} {x c : Sl} {J : Rho → Prop} {P : Fl → Prop} (I : RI n es i T)
    (k1 : fresh n es T ≠ [] → J (lR n es (pairs n) x (.own (.dt (tnD (T ++ (fresh n es T).map fun a => (a, i))))) (.fz (.int i)) (.own (.list ((fresh n es T).map prD)))))
    (k2 : fresh n es T = [] → ∀ b c, P (.nx (lR n es (pairs n) x (.own (.dt (tnD T))) b c))) : d__law_turns_b2 (lR n es (pairs n) x (.own (.dt (tnD T))) (.fz (.int i)) c) (fK J P) := by
  have h3 := law_turns_c3 o (x := x) (c := c) I
  have h4 := law_turns_c4 o (x := x) (T := T) (i := i)
  have h5 := upd_fresh o I
  have h6 := eqD_nil (shp_prs1 (fresh n es T))
  have e : ((fresh n es T).map prD).isEmpty = (fresh n es T).isEmpty := by cases fresh n es T <;> rfl
  rw [e] at h6
  have k2' := fun h => k2 h (.fz (.int i)) (.own (.list ((fresh n es T).map prD)))
  unfold d__law_turns_b2
  unfold lR at h3 h4 k1 k2' ⊢
  repeat walk_at "ev1"
  refine h3 _ ?_
  repeat walk_at "ev1"
  refine h4 _ ?_
  repeat walk_at "ev1"
  refine v_opt h5 ?_
  repeat walk_at "ev1"
  refine v_opt h6 ?_
  repeat walk_at "ev1"
  refine v_ite (fun e => ?_) (fun e => ?_)
  · rw [List.isEmpty_iff] at e
    repeat walk_at "ev1"
    have := k2' e
    rw [e] at this ⊢
    rw [List.map_nil, List.append_nil]
    exact this
  · repeat walk_at "ev1"
    refine k1 fun z => ?_
    rw [z] at e; cases e
theorem e__law_turns : Ev (d__law_turns [ag (wD n es)]) (.fr (.dt (tnD (turnsT n es)))) := fun P k => by
  have n5 := o.n5
  have s := sq o
  have pl := pairs_len n
  unfold d__law_turns
  repeat walk_at "ev1"
  refine law_turns_l1 o fun x => ?_
  have h2 := law_turns_c2 o (x := x)
  have hd : dictD (.list ((diag n).map fun q => .tuple [prD q.1, .int q.2])) = some (.dt (tnD (diag n))) := by
    show (prsT ((diag n).map fun q => D.tuple [prD q.1, .int q.2])).map (fun qs => D.dt (putAll [] qs)) = _
    rw [prsT_tn, Option.map_some]
    have := putAll_tn o (S := diag n) (T := []) (by simpa using (diag_ok o).1)
    rw [show tnD [] = [] from rfl, List.nil_append] at this
    rw [this]
  unfold lR at h2 ⊢
  repeat walk_at "ev1"
  refine h2 _ ?_
  repeat walk_at "ev1"
  refine v_opt hd ?_
  repeat walk_at "ev1"
  unfold d__law_turns_l2
  repeat walk_at "ev1"
  have hlen : ((pairs n).map prD).length = (pairs n).length := List.length_map _
  refine ⟨?_, ?_⟩
  · rw [hlen, pl]; unfold okRng lim; exact decide_eq_true ⟨by omega, by omega, by omega⟩
  rw [rng_range (N := (pairs n).length) (by rw [hlen]; omega)]
  refine v_forGo (fun pre ρ => ∃ T b c, RI n es ((pre.length : Int) + 1) T ∧ rounds n es ((pairs n).length - pre.length) ((pre.length : Int) + 1) T = turnsT n es ∧ ρ = lR n es (pairs n) x (.own (.dt (tnD T))) b c) ⟨diag n, .un, .un, by have := ri_start o; simpa using this, by unfold turnsT; simp, rfl⟩ (fun pre i post ρ e ⟨T, b, c, I, hT, hx⟩ => ?_) (fun ρ ⟨T, b, c, I, hT, hx⟩ => ?_)
  · subst hx
    obtain ⟨e1, e2⟩ := range_at e
    subst e1
    refine ⟨lR n es (pairs n) x (.own (.dt (tnD T))) (.fz (.int (1 + (pre.length : Int)))) c, rfl, fun J hJ => ?_⟩
    have ei : 1 + (pre.length : Int) = pre.length + 1 := by omega
    obtain ⟨m, hm⟩ : ∃ m, (pairs n).length - pre.length = m + 1 := ⟨(pairs n).length - pre.length - 1, by omega⟩
    have hm2 : (pairs n).length - (pre ++ [pre.length]).length = m := by rw [List.length_append, List.length_singleton]; omega
    have hm3 : (((pre ++ [pre.length]).length : Nat) : Int) + 1 = pre.length + 1 + 1 := by rw [List.length_append, List.length_singleton]; omega
    rw [ei]
    rw [hm] at hT
    refine law_turns_b2 o I (fun hf => hJ _ ⟨_, _, _, ?_, ?_, rfl⟩) fun hf b c => ?_
    · rw [hm3]; exact ri_step o I hf
    · rw [hm2, hm3]
      unfold rounds at hT
      rw [if_neg (fun z => hf (List.isEmpty_iff.mp z))] at hT
      exact hT
    · unfold rounds at hT
      rw [if_pos (by rw [hf]; rfl)] at hT
      rw [hT]
      unfold lR
      repeat walk_at "ev1"
      exact k
  · subst hx
    rw [List.length_range, Nat.sub_self] at hT
    have : T = turnsT n es := hT
    rw [this]
    unfold lR
    repeat walk_at "ev1"
    exact k
end
end HK

set_option Elab.async false
set_option linter.all false
set_option maxRecDepth 100000
/-! M52r: hunts. -/
namespace HK
open PySem PV
local macro_rules | `(tactic| walk_at "op") => `(tactic| with_reducible first | exact eqD_int _ _ | exact neD_int _ _ | exact eqD_pr _ _ | exact neD_pr _ _ | exact ltD_int _ _ | exact inD_ints1 _ _ | exact inD_ints2 _ _ | exact ninD_ints1 _ _ | exact ninD_ints2 _ _ | exact inD_prs1 _ _ | exact inD_prs2 _ _ | exact ninD_prs1 _ _ | exact ninD_prs2 _ _ | exact dget_tn _ _ | exact inD_tn _ _ | exact ninD_tn _ _ | exact dget_tn' _ _ _ | exact inD_tn' _ _ _ | exact ninD_tn' _ _ _ | exact inD_prs1' _ _ _ | exact inD_prs2' _ _ _ | exact ninD_prs1' _ _ _ | exact ninD_prs2' _ _ _ | exact eqD_pr' _ _ _ _ | exact neD_pr' _ _ _ _ | exact sortE_ints _ | exact sortE_prs _ | exact mulD_r _ _ (by with_unfolding_all rfl) | exact mulD_l _ _ (by with_unfolding_all rfl) | exact modD_pos _ _ (by decide) | exact sumD_ints _ | exact all_map _ _ | exact eqD_bool _ _ | exact neD_bool _ _)
local macro_rules | `(tactic| walk_at "call") => `(tactic| fail)
local macro_rules | `(tactic| walk_at "ev1") => `(tactic| first
  | ((with_reducible refine v_sqnx ?_); try dsimp only [List.set])
  | with_reducible refine v_seq ?_
  | ((with_reducible apply v_fn); rfl; (repeat first | exact En.nil | apply En.consD | apply En.consP | apply En.un))
  | with_reducible refine v_rd ?_
  | with_reducible refine v_fz ?_
  | ((with_reducible apply v_opt); (first | walk_at "op" | ((fail_if_success with_reducible first | refine isEqD ?_ | refine isNeD ?_ | refine isInD ?_ | refine isNinD ?_ | refine isSort ?_ | refine isAll ?_ | refine isAny ?_ | refine isSum ?_ | refine isMax ?_ | refine isMin ?_ | refine isIndex ?_ | refine isMod ?_ | refine isPow ?_); rfl)))
  | ((with_reducible apply v_var_fz); rfl)
  | ((with_reducible apply v_var_own); rfl)
  | ((with_reducible apply v_var_rd); rfl; rfl)
  | ((with_reducible apply v_var_bx); rfl; rfl)
  | ((with_reducible apply v_var_pot); rfl)
  | ((with_reducible apply v_var_V); rfl; assumption)
  | ((with_reducible apply v_fixV); rfl; assumption)
  | with_reducible refine v_cst ?_
  | with_reducible refine v_u2 ?_
  | with_reducible refine v_u1 ?_
  | with_reducible refine v_plusI ?_
  | with_reducible refine v_plusL ?_
  | with_reducible refine v_plusT ?_
  | with_reducible refine v_vl2 ?_
  | with_reducible refine v_vl ?_
  | with_reducible refine v_nw ?_
  | with_reducible refine v_nw2 ?_
  | with_reducible refine v_tst ?_
  | with_reducible refine v_bK ?_
  | with_reducible refine v_iK ?_
  | with_reducible refine v_c2K ?_
  | with_reducible refine v_cal ?_
  | with_reducible refine v_gcons ?_
  | with_reducible refine v_gnil ?_
  | with_reducible refine v_lcons ?_
  | with_reducible refine v_lnil ?_
  | with_reducible refine v_lstar ?_
  | with_reducible refine v_tup ?_
  | with_reducible refine v_lst ?_
  | with_reducible refine v_sset ?_
  | with_reducible refine v_sif ?_
  | with_reducible refine v_sret ?_
  | with_reducible refine v_drop ?_
  | with_reducible refine v_nil ?_
  | with_reducible refine v_asg ?_
  | with_reducible refine v_break ?_
  | with_reducible refine v_cont ?_
  | ((with_reducible apply v_fixO); rfl)
  | ((with_reducible apply v_fixF); rfl)
  | ((with_reducible apply v_fixR); rfl)
  | ((with_reducible apply v_fixU); rfl)
  | ((with_reducible apply v_fix); rfl)
  | ((with_reducible apply v_own1); rfl; rfl)
  | ((with_reducible apply v_own2); rfl; rfl)
  | ((with_reducible apply v_own0); rfl; rfl; rfl; exact Nat.le_of_ble_eq_true rfl)
  | ((with_reducible apply v_put); rfl)
  | ((with_reducible refine v_par ?_ ?_); exact ⟨Nat.le_of_ble_eq_true rfl, Nat.le_of_ble_eq_true rfl⟩)
  | with_reducible refine v_for ?_
  | with_reducible refine v_wseq ?_
  | with_reducible refine v_rng1 ?_
  | with_reducible refine v_rng2 ?_
  | with_reducible refine v_tand ?_
  | with_reducible refine v_tor ?_
  | with_reducible refine v_tnot ?_
  | with_reducible refine v_yes ?_
  | with_reducible refine v_ife ?_
  | with_reducible refine v_pand ?_
  | with_reducible refine v_por ?_
  | with_reducible refine v_pnot ?_
  | with_reducible refine v_chn ?_
  | with_reducible refine v_get1 ?_
  | with_reducible refine v_get2 ?_
  | with_reducible refine v_ind ?_
  | with_reducible refine v_newK ?_
  | with_reducible refine v_newT ?_
  | with_reducible refine v_sle ?_
  | with_reducible refine v_ono ?_
  | with_reducible refine v_osome ?_
  | with_reducible refine v_sqrt ?_
  | with_reducible refine v_rKrt ?_
  | with_reducible refine v_rKnx ?_
  | with_reducible refine v_fKnx ?_
  | with_reducible refine v_fKrt ?_
  | with_reducible refine v_fKbk ?_
  | with_reducible refine v_fKct ?_
  | with_reducible refine v_sqbk ?_
  | with_reducible refine v_sqct ?_
  | with_reducible refine v_iteT ?_
  | with_reducible refine v_iteF ?_
  | with_reducible refine And.intro (Nat.le_of_ble_eq_true rfl) ?_
  | refine And.intro rfl ?_
  | ((with_reducible apply v_ifF); rfl)
  | ((with_reducible apply v_ifT); rfl)
  | walk_at "call")
theorem v_pick {l : List Int} {P : Re → Prop} (h : l ≠ []) (hl : l.length ≤ 1000) (k : ∀ x ∈ l, P (.val (.int x))) : d__law_pick [.pot, .d (.list (l.map D.int))] P := by
  unfold d__law_pick
  repeat walk_at "ev1"
  have hp : 0 < l.length := List.length_pos_iff.mpr h
  refine v_draw (by rw [List.length_map]; omega) (by rw [List.length_map]; omega) fun j j0 j1 => ?_
  rw [List.length_map] at j1
  repeat walk_at "ev1"
  obtain ⟨x, hx, h1, _⟩ := ixD_in (f := D.int) j0 j1
  refine v_opt h1 ?_
  repeat walk_at "ev1"
  exact k x hx
section
variable {n : Nat} {es : List Pr} (o : OkW n es)
include o
theorem lgo_sort {p : Int} (h0 : 0 ≤ p) (h1 : p < n) : isort (lgo n es p) = goes n es p := by
  have np : p ∉ near n es p := fun h => by
    have := adj_rg o (mem_near.mp h).2
    omega
  exact isort_eq (List.nodup_cons.mpr ⟨np, near_asc.imp fun h => by omega⟩) goes_asc fun x => mem_lgo o h0 h1
theorem sort_lgo {p : Int} (h0 : 0 ≤ p) (h1 : p < n) : sortE (.list ((lgo n es p).map D.int)) = some (.list ((goes n es p).map D.int)) := by
  rw [sortE_ints, lgo_sort o h0 h1]
/-- what the hunter's step and the hare's leave -/
structure Stp (n : Nat) (es : List Pr) (q w t x w' : Int) : Prop where
  x0 : 0 ≤ x
  x1 : x < n
  lk' : lk (turnsT n es) (t, x) = some w'
  lt : w' < w
theorem hunt_step {q w t x : Int} (hx : x ∈ goes n es q) (ht : 0 ≤ t ∧ t < n) (c : clv n es (turnsT n es) w t q) (hne : t ≠ q) (hw : 1 ≤ w) : ∃ w', Stp n es q w t x w' := by
  have tf := turns_tf o
  have r := (mem_goes.mp hx).1
  by_cases e : x = t
  · subst e
    exact ⟨0, r.1, r.2, tf.d0 _ r.1 r.2, by omega⟩
  · rcases c with c | c
    · exact absurd c hne
    · obtain ⟨w', h1, h2⟩ := c x hx e
      exact ⟨w', r.1, r.2, h1, h2⟩
theorem hunt_w1 {q w t : Int} (h0 : 0 ≤ q) (h1 : q < n) (c : clv n es (turnsT n es) w t q) (hne : t ≠ q) (hw : 1 ≤ w) : 2 ≤ w := by
  have tf := turns_tf o
  rcases c with c | c
  · exact absurd c hne
  · obtain ⟨w', h3, h4⟩ := c q (mem_goes.mpr ⟨⟨h0, h1⟩, .inl rfl⟩) (fun e => hne e.symm)
    have h5 := (tf.vb _ _ h3).1
    by_cases e : w' = 0
    · subst e
      exact absurd (tf.z _ h3) hne
    · omega
/-- the hardest step of the hare leaves just one turn fewer -/
theorem hunt_hard {p q w t : Int} (hv : lk (turnsT n es) (p, q) = some w) (ht : t ∈ goes n es p) (h0 : 0 ≤ q) (h1 : q < n) (c : clv n es (turnsT n es) w t q) (hne : t ≠ q) (hw : 2 ≤ w) :
    (∀ u ∈ goes n es q, ((lk (turnsT n es) (t, u)).getD 99) ≤ w - 1) ∧ ∃ u ∈ goes n es q, ((lk (turnsT n es) (t, u)).getD 99) = w - 1 := by
  have tf := turns_tf o
  have tr := (mem_goes.mp ht).1
  have hle : ∀ u ∈ goes n es q, ∃ w', lk (turnsT n es) (t, u) = some w' ∧ w' ≤ w - 1 := fun u hu => by
    obtain ⟨w', s⟩ := hunt_step o hu tr c hne (by omega)
    exact ⟨w', s.lk', by have := s.lt; omega⟩
  refine ⟨fun u hu => ?_, Classical.byContradiction fun hn => ?_⟩
  · obtain ⟨w', h3, h4⟩ := hle u hu
    rw [h3]; exact h4
  · refine tf.P2 _ _ hv hw t ht (.inr fun u hu hut => ?_)
    obtain ⟨w', h3, h4⟩ := hle u hu
    refine ⟨w', h3, ?_⟩
    by_cases e : w' = w - 1
    · exact absurd ⟨u, hu, by rw [h3]; exact e⟩ hn
    · omega
def hR (n : Nat) (es : List Pr) (hard : Bool) (s2 s3 s6 s7 s8 s9 : Sl) : Rho := [.pot, .rd (wD n es), s2, s3, .rd (.dt (tnD (turnsT n es))), .rd (.bool hard), s6, s7, s8, s9, .un]
theorem hunted_c1 {hard : Bool} {s2 s3 s6 s9 : Sl} {t q : Int} : Ev (d__law_hunted_c1 (hR n es hard s2 s3 s6 (.fz (.int t)) (.own (.list ((goes n es q).map D.int))) s9)) (.fr (.list (((goes n es q).map fun u => (lk (turnsT n es) (t, u)).getD 99).map D.int))) := fun P k => by
  rw [List.map_map] at k
  have gl := goes_len (n := n) (es := es) (p := q)
  have n5 := o.n5
  unfold d__law_hunted_c1
  refine v_ev (lc_EvY (f := D.int) (l := goes n es q) (g := fun u => D.int ((lk (turnsT n es) (t, u)).getD 99)) ?_ (fun u hu => ⟨(hR n es hard s2 s3 s6 (.fz (.int t)) (.own (.list ((goes n es q).map D.int))) s9 |> inb [10]).set 10 (.fz (.int u)), rfl, ?_⟩) (limB (by omega))) k
  · intro P k
    unfold hR
    repeat walk_at "ev1"
    exact k
  · intro P k
    have hd := dget_tn (turnsT n es) (t, u)
    have e : ((lk (turnsT n es) (t, u)).map D.int).getD (.int 99) = .int ((lk (turnsT n es) (t, u)).getD 99) := by cases lk (turnsT n es) (t, u) <;> rfl
    unfold hR inb
    repeat walk_at "ev1"
    rw [e]
    exact k
def hb2 : SX := (sSeq (sIf (tst (u2 (vl2 eqD) (var 7) (var 3))) (sRet (u2 plusD (var 6) (cst (.int 1)))) sNil) (sSeq (sSet 8 (u1 (nw sortE) (calE d__law_goes (gcons (var 1) (gcons (var 3) gnil))))) (sSeq (sSeq (sFixM 7) (sSet 9 d__law_hunted_c1)) (sSeq (sFixM 7) (sPar 2 3 (var 7) (ife (tst (var 5)) (u2 (vl2 ixD) (var 8) (indE (var 9) (u1 (vl maxD) (var 9)))) (calE d__law_pick (gcons (var 0) (gcons (var 8) gnil)))))))))
theorem hunted_b2 {hard : Bool} {s2 s3 s8 s9 : Sl} {p q w v t : Int} {j : Nat} {J : Rho → Prop} {P : Re → Prop} (i2 : IsV s2 (.int p)) (i3 : IsV s3 (.int q)) (p0 : 0 ≤ p) (p1 : p < n) (q0 : 0 ≤ q) (q1 : q < n)
    (hw : lk (turnsT n es) (p, q) = some w) (hw1 : 1 ≤ w) (hj : (j : Int) + w ≤ v) (hh : hard = true → (j : Int) + w = v) (k : ∀ m : Int, m ≤ v → (hard = true → m = v) → P (.val (.int m)))
    (kJ : ∀ (t x w' : Int) (s8 s9 : Sl), 2 ≤ w → 0 ≤ t ∧ t < n → Stp n es q w t x w' → (hard = true → w' = w - 1) → J (hR n es hard (.fz (.int t)) (.fz (.int x)) (.fz (.int (0 + (j : Int)))) (.fz (.int t)) s8 s9))
    (tg : t ∈ goes n es p) (tc : clv n es (turnsT n es) w t q) :
    hb2 (hR n es hard s2 s3 (.fz (.int (0 + (j : Int)))) (.fz (.int t)) s8 s9) (fK J (PV.sq (sRet (cst (.int 99))) (rK P))) := by
  have tf := turns_tf o
  have n5 := o.n5
  have gl := goes_len (n := n) (es := es) (p := q)
  have tr := (mem_goes.mp tg).1
  unfold hb2 hR
  repeat walk_at "ev1"
  refine v_ite (fun e => ?_) (fun e => ?_)
  · have e := of_decide_eq_true e
    subst e
    repeat walk_at "ev1"
    refine k _ (by omega) fun h => ?_
    have := hh h
    by_cases c : w = 1
    · omega
    · exact absurd (.inl rfl) (tf.P2 _ _ hw (by omega) t tg)
  have hne : t ≠ q := of_decide_eq_false e
  have w2 := hunt_w1 o q0 q1 tc hne hw1
  have hg := e__law_goes o q
  have hs := sort_lgo o q0 q1
  have hc := hunted_c1 o (hard := hard) (s2 := s2) (s3 := s3) (s6 := .fz (.int (0 + (j : Int)))) (s9 := s9) (t := t) (q := q)
  unfold hR at hc
  have gne : goes n es q ≠ [] := List.ne_nil_of_mem (mem_goes.mpr ⟨⟨q0, q1⟩, .inl rfl⟩)
  repeat walk_at "ev1"
  refine v_of hg ?_
  repeat walk_at "ev1"
  rw [lgo_sort o q0 q1]
  refine hc _ ?_
  repeat walk_at "ev1"
  cases hard with
  | true =>
    repeat walk_at "ev1"
    obtain ⟨h1, u, h2, h3⟩ := hunt_hard o hw tg q0 q1 tc hne w2
    have lne : (goes n es q).map (fun u => (lk (turnsT n es) (t, u)).getD 99) ≠ [] := fun z => gne (List.map_eq_nil_iff.mp z)
    obtain ⟨m, m1, m2, m3⟩ := maxD_ints lne
    obtain ⟨u', u1, u2⟩ := List.mem_map.mp m1
    have em : m = w - 1 := by
      have := h1 u' u1
      have := m2 _ (List.mem_map.mpr ⟨u, h2, rfl⟩)
      omega
    obtain ⟨i, i1, i2⟩ := indexD_ints m1
    rw [List.getElem?_map] at i1
    obtain ⟨x, x1, x2⟩ := Option.map_eq_some_iff.mp i1
    have hx : x ∈ goes n es q := List.mem_of_getElem? x1
    refine v_opt m3 ?_
    repeat walk_at "ev1"
    refine v_opt i2 ?_
    repeat walk_at "ev1"
    refine v_opt (ixD_at (f := D.int) x1).1 ?_
    repeat walk_at "ev1"
    obtain ⟨w', st⟩ := hunt_step o hx tr tc hne hw1
    have ew : w' = w - 1 := by
      rw [st.lk'] at x2
      have x2 : w' = m := x2
      omega
    exact kJ t x w' _ _ w2 tr st fun _ => ew
  | false =>
    repeat walk_at "ev1"
    refine v_pick gne (by omega) fun x hx => ?_
    repeat walk_at "ev1"
    obtain ⟨w', st⟩ := hunt_step o hx tr tc hne hw1
    exact kJ t x w' _ _ w2 tr st fun h => by cases h
theorem hunted_b1 {hard : Bool} {s2 s3 s7 s8 s9 : Sl} {p q w v : Int} {j : Nat} {J : Rho → Prop} {P : Re → Prop} (i2 : IsV s2 (.int p)) (i3 : IsV s3 (.int q)) (p0 : 0 ≤ p) (p1 : p < n) (q0 : 0 ≤ q) (q1 : q < n)
    (hw : lk (turnsT n es) (p, q) = some w) (hj : (j : Int) + w ≤ v) (hh : hard = true → (j : Int) + w = v) (k : ∀ m : Int, m ≤ v → (hard = true → m = v) → P (.val (.int m)))
    (kJ : ∀ (t x w' : Int) (s8 s9 : Sl), 2 ≤ w → 0 ≤ t ∧ t < n → Stp n es q w t x w' → (hard = true → w' = w - 1) → J (hR n es hard (.fz (.int t)) (.fz (.int x)) (.fz (.int (0 + (j : Int)))) (.fz (.int t)) s8 s9)) :
    d__law_hunted_b1 (hR n es hard s2 s3 (.fz (.int (0 + (j : Int)))) s7 s8 s9) (fK J (PV.sq (sRet (cst (.int 99))) (rK P))) := by
  have tf := turns_tf o
  unfold d__law_hunted_b1 hR
  repeat walk_at "ev1"
  refine v_ite (fun e => ?_) (fun e => ?_)
  · have e := of_decide_eq_true e
    subst e
    have h0 := tf.d0 p p0 p1
    rw [h0] at hw
    cases hw
    repeat walk_at "ev1"
    exact k _ (by omega) fun h => by have := hh h; omega
  have hne : p ≠ q := of_decide_eq_false e
  have hw0 := (tf.vb _ _ hw).1
  have hw1 : 1 ≤ w := by
    by_cases c : w = 0
    · subst c; exact absurd (tf.z _ hw) hne
    · omega
  obtain ⟨t, ht, tg, tc⟩ := e_hunter_move o p0 p1 q0 q1 hw hw1
  have tr := (mem_goes.mp tg).1
  have hnb := e_neighbours o p0 p1
  have rest := hunted_b2 o (s8 := s8) (s9 := s9) i2 i3 p0 p1 q0 q1 hw hw1 hj hh k kJ tg tc
  repeat walk_at "ev1"
  refine v_of ht ?_
  repeat walk_at "ev1"
  have hin : (!decide (t = p)) = true → (!decide (t ∈ near n es p)) = false := fun h => by
    have h1 : t ≠ p := by simpa using h
    have h2 := (mem_goes.mp tg).2
    have : t ∈ near n es p := mem_near.mpr ⟨tr, h2.resolve_left h1⟩
    simp [this]
  refine v_ite (fun e => ?_) (fun e => ?_)
  · repeat walk_at "ev1"
    refine v_of hnb ?_
    repeat walk_at "ev1"
    refine v_ite (fun e2 => ?_) (fun _ => ?_)
    · rw [hin e] at e2; cases e2
    refine v_nil ?_
    refine v_sqnx ?_
    exact rest
  · refine v_nil ?_
    refine v_sqnx ?_
    exact rest
theorem e__law_hunted {hard : Bool} {p q v : Int} {P : Re → Prop} (p0 : 0 ≤ p) (p1 : p < n) (q0 : 0 ≤ q) (q1 : q < n) (hv : lk (turnsT n es) (p, q) = some v) (k : ∀ m : Int, m ≤ v → (hard = true → m = v) → P (.val (.int m))) :
    d__law_hunted [.pot, ag (wD n es), ag (.int p), ag (.int q), ag (.dt (tnD (turnsT n es))), ag (.bool hard)] P := by
  have tf := turns_tf o
  have v20 := (tf.vb _ _ hv).2
  unfold d__law_hunted
  repeat walk_at "ev1"
  unfold d__law_hunted_l1
  repeat walk_at "ev1"
  rw [rng_range (N := 20) rfl]
  refine v_forGo (fun pre ρ => ∃ s2 s3 s6 s7 s8 s9 p q w, IsV s2 (.int p) ∧ IsV s3 (.int q) ∧ (0 ≤ p ∧ p < n ∧ 0 ≤ q ∧ q < n) ∧ lk (turnsT n es) (p, q) = some w ∧ (pre.length : Int) + w ≤ v ∧ (hard = true → (pre.length : Int) + w = v) ∧ pre.length ≤ 19 ∧ ρ = hR n es hard s2 s3 s6 s7 s8 s9)
    ⟨_, _, .un, .un, .un, .un, p, q, v, .inl ⟨rfl, rfl⟩, .inl ⟨rfl, rfl⟩, ⟨p0, p1, q0, q1⟩, hv, by simp, by simp, by simp, rfl⟩
    (fun pre i post ρ e ⟨s2, s3, s6, s7, s8, s9, p, q, w, i2, i3, ⟨p0, p1, q0, q1⟩, hw, hj, hh, hl, hx⟩ => ?_) (fun ρ ⟨s2, s3, s6, s7, s8, s9, p, q, w, i2, i3, _, hw, hj, hh, hl, hx⟩ => ?_)
  · subst hx
    obtain ⟨e1, e2⟩ := range_at e
    subst e1
    refine ⟨hR n es hard s2 s3 (.fz (.int (0 + (pre.length : Int)))) s7 s8 s9, rfl, fun J hJ => ?_⟩
    refine hunted_b1 o i2 i3 p0 p1 q0 q1 hw hj hh k fun t x w' s8 s9 w2 tr st hd => hJ _ ⟨_, _, _, _, s8, s9, t, x, w', .inr rfl, .inr rfl, ⟨tr.1, tr.2, st.x0, st.x1⟩, st.lk', ?_, fun h => ?_, ?_, rfl⟩
    · have := st.lt; rw [List.length_append, List.length_singleton]; omega
    · have := hd h; have := hh h; rw [List.length_append, List.length_singleton]; omega
    · rw [List.length_append, List.length_singleton]; omega
  · rw [List.length_range] at hl; omega
end
end HK

set_option Elab.async false
set_option linter.all false
set_option maxRecDepth 100000
/-! M52s: the hare that stays free. -/
namespace HK
open PySem PV
local macro_rules | `(tactic| walk_at "op") => `(tactic| with_reducible first | exact eqD_int _ _ | exact neD_int _ _ | exact eqD_pr _ _ | exact neD_pr _ _ | exact ltD_int _ _ | exact inD_ints1 _ _ | exact inD_ints2 _ _ | exact ninD_ints1 _ _ | exact ninD_ints2 _ _ | exact inD_prs1 _ _ | exact inD_prs2 _ _ | exact ninD_prs1 _ _ | exact ninD_prs2 _ _ | exact dget_tn _ _ | exact inD_tn _ _ | exact ninD_tn _ _ | exact dget_tn' _ _ _ | exact inD_tn' _ _ _ | exact ninD_tn' _ _ _ | exact inD_prs1' _ _ _ | exact inD_prs2' _ _ _ | exact ninD_prs1' _ _ _ | exact ninD_prs2' _ _ _ | exact eqD_pr' _ _ _ _ | exact neD_pr' _ _ _ _ | exact sortE_ints _ | exact sortE_prs _ | exact mulD_r _ _ (by with_unfolding_all rfl) | exact mulD_l _ _ (by with_unfolding_all rfl) | exact modD_pos _ _ (by decide) | exact sumD_ints _ | exact all_map _ _ | exact eqD_bool _ _ | exact neD_bool _ _)
local macro_rules | `(tactic| walk_at "call") => `(tactic| fail)
local macro_rules | `(tactic| walk_at "ev1") => `(tactic| first
  | ((with_reducible refine v_sqnx ?_); try dsimp only [List.set])
  | with_reducible refine v_seq ?_
  | ((with_reducible apply v_fn); rfl; (repeat first | exact En.nil | apply En.consD | apply En.consP | apply En.un))
  | with_reducible refine v_rd ?_
  | with_reducible refine v_fz ?_
  | ((with_reducible apply v_opt); (first | walk_at "op" | ((fail_if_success with_reducible first | refine isEqD ?_ | refine isNeD ?_ | refine isInD ?_ | refine isNinD ?_ | refine isSort ?_ | refine isAll ?_ | refine isAny ?_ | refine isSum ?_ | refine isMax ?_ | refine isMin ?_ | refine isIndex ?_ | refine isMod ?_ | refine isPow ?_); rfl)))
  | ((with_reducible apply v_var_fz); rfl)
  | ((with_reducible apply v_var_own); rfl)
  | ((with_reducible apply v_var_rd); rfl; rfl)
  | ((with_reducible apply v_var_bx); rfl; rfl)
  | ((with_reducible apply v_var_pot); rfl)
  | ((with_reducible apply v_var_V); rfl; assumption)
  | ((with_reducible apply v_fixV); rfl; assumption)
  | with_reducible refine v_cst ?_
  | with_reducible refine v_u2 ?_
  | with_reducible refine v_u1 ?_
  | with_reducible refine v_plusI ?_
  | with_reducible refine v_plusL ?_
  | with_reducible refine v_plusT ?_
  | with_reducible refine v_vl2 ?_
  | with_reducible refine v_vl ?_
  | with_reducible refine v_nw ?_
  | with_reducible refine v_nw2 ?_
  | with_reducible refine v_tst ?_
  | with_reducible refine v_bK ?_
  | with_reducible refine v_iK ?_
  | with_reducible refine v_c2K ?_
  | with_reducible refine v_cal ?_
  | with_reducible refine v_gcons ?_
  | with_reducible refine v_gnil ?_
  | with_reducible refine v_lcons ?_
  | with_reducible refine v_lnil ?_
  | with_reducible refine v_lstar ?_
  | with_reducible refine v_tup ?_
  | with_reducible refine v_lst ?_
  | with_reducible refine v_sset ?_
  | with_reducible refine v_sif ?_
  | with_reducible refine v_sret ?_
  | with_reducible refine v_drop ?_
  | with_reducible refine v_nil ?_
  | with_reducible refine v_asg ?_
  | with_reducible refine v_break ?_
  | with_reducible refine v_cont ?_
  | ((with_reducible apply v_fixO); rfl)
  | ((with_reducible apply v_fixF); rfl)
  | ((with_reducible apply v_fixR); rfl)
  | ((with_reducible apply v_fixU); rfl)
  | ((with_reducible apply v_fix); rfl)
  | ((with_reducible apply v_own1); rfl; rfl)
  | ((with_reducible apply v_own2); rfl; rfl)
  | ((with_reducible apply v_own0); rfl; rfl; rfl; exact Nat.le_of_ble_eq_true rfl)
  | ((with_reducible apply v_put); rfl)
  | ((with_reducible refine v_par ?_ ?_); exact ⟨Nat.le_of_ble_eq_true rfl, Nat.le_of_ble_eq_true rfl⟩)
  | with_reducible refine v_for ?_
  | with_reducible refine v_wseq ?_
  | with_reducible refine v_rng1 ?_
  | with_reducible refine v_rng2 ?_
  | with_reducible refine v_tand ?_
  | with_reducible refine v_tor ?_
  | with_reducible refine v_tnot ?_
  | with_reducible refine v_yes ?_
  | with_reducible refine v_ife ?_
  | with_reducible refine v_pand ?_
  | with_reducible refine v_por ?_
  | with_reducible refine v_pnot ?_
  | with_reducible refine v_chn ?_
  | with_reducible refine v_get1 ?_
  | with_reducible refine v_get2 ?_
  | with_reducible refine v_ind ?_
  | with_reducible refine v_newK ?_
  | with_reducible refine v_newT ?_
  | with_reducible refine v_sle ?_
  | with_reducible refine v_ono ?_
  | with_reducible refine v_osome ?_
  | with_reducible refine v_sqrt ?_
  | with_reducible refine v_rKrt ?_
  | with_reducible refine v_rKnx ?_
  | with_reducible refine v_fKnx ?_
  | with_reducible refine v_fKrt ?_
  | with_reducible refine v_fKbk ?_
  | with_reducible refine v_fKct ?_
  | with_reducible refine v_sqbk ?_
  | with_reducible refine v_sqct ?_
  | with_reducible refine v_iteT ?_
  | with_reducible refine v_iteF ?_
  | with_reducible refine And.intro (Nat.le_of_ble_eq_true rfl) ?_
  | refine And.intro rfl ?_
  | ((with_reducible apply v_ifF); rfl)
  | ((with_reducible apply v_ifT); rfl)
  | walk_at "call")
def rR (n : Nat) (es : List Pr) (s2 s3 s5 s6 s7 : Sl) : Rho := [.pot, .rd (wD n es), s2, s3, .fz (.tuple ((freeL n es).map prD)), s5, s6, s7, .un]
section
variable {n : Nat} {es : List Pr} (o : OkW n es)
include o
theorem runs_c1 {s2 s3 s5 s7 : Sl} {t q : Int} (i3 : IsV s3 (.int q)) (q0 : 0 ≤ q) (q1 : q < n) : Ev (d__law_runs_c1 (rR n es s2 s3 s5 (.fz (.int t)) s7)) (.fr (.list (((lgo n es q).filter fun u => decide ((t, u) ∈ freeL n es)).map D.int))) := fun P k => by
  have gl := lc_goes_len o (p := q)
  have hnb := e_neighbours o q0 q1
  have ll : [D.int q].length + ((near n es q).map D.int).length ≤ lim := by
    have n5 := o.n5
    have := near_len (n := n) (es := es) (p := q)
    rw [List.length_map, List.length_singleton]; exact limB (by omega)
  unfold d__law_runs_c1
  refine v_ev (lc_Ev (f := D.int) (l := lgo n es q) (b := fun u => decide ((t, u) ∈ freeL n es)) (g := D.int) ?_ (fun u hu => ⟨(rR n es s2 s3 s5 (.fz (.int t)) s7 |> inb [8]).set 8 (.fz (.int u)), rfl, ?_, fun _ => ?_⟩) (limB (by omega))) k
  · intro P k
    unfold rR
    repeat walk_at "ev1"
    refine v_of hnb ?_
    repeat walk_at "ev1"
    refine ⟨ll, ?_⟩
    repeat walk_at "ev1"
    exact k
  · intro P k
    unfold rR inb
    repeat walk_at "ev1"
    exact k
  · intro P k
    unfold rR inb
    repeat walk_at "ev1"
    exact k
theorem runs_b1 {s2 s3 s5 s6 s7 : Sl} {p q : Int} {J : Rho → Prop} {P : Fl → Prop} (i2 : IsV s2 (.int p)) (i3 : IsV s3 (.int q)) (p0 : 0 ≤ p) (p1 : p < n) (q0 : 0 ≤ q) (q1 : q < n)
    (hw : lk (turnsT n es) (p, q) = none) (kJ : ∀ (t x : Int) (s7 : Sl), (0 ≤ t ∧ t < n) → (0 ≤ x ∧ x < n) → lk (turnsT n es) (t, x) = none → J (rR n es (.fz (.int t)) (.fz (.int x)) s5 (.fz (.int t)) s7)) :
    d__law_runs_b1 (rR n es s2 s3 s5 s6 s7) (fK J P) := by
  have tf := turns_tf o
  have n5 := o.n5
  have hg := e__law_goes o p
  have gl := lc_goes_len o (p := p)
  have gl2 := lc_goes_len o (p := q)
  have hct := e_chase_turns o p0 p1 q0 q1
  unfold d__law_runs_b1 rR
  repeat walk_at "ev1"
  refine v_of hg ?_
  repeat walk_at "ev1"
  refine v_pick (by unfold lgo; simp) (by omega) fun t ht => ?_
  have tg := (mem_lgo o p0 p1).mp ht
  have tr := (mem_goes.mp tg).1
  have hc := runs_c1 o (s2 := s2) (s5 := s5) (s7 := s7) (t := t) i3 q0 q1
  unfold rR at hc
  have hp3 := tf.P3 _ (mem_pairs.mpr ⟨⟨p0, p1⟩, q0, q1⟩) hw t tg
  unfold dcl at hp3
  rw [Bool.or_eq_false_iff] at hp3
  have htq := hp3.1
  have hsome : (lgo n es q).filter (fun u => decide ((t, u) ∈ freeL n es)) ≠ [] := by
    obtain ⟨u, hu, h2⟩ := List.all_eq_false.mp hp3.2
    have hu := List.mem_filter.mp hu
    have ur := (mem_goes.mp hu.1).1
    refine List.ne_nil_of_mem (a := u) (List.mem_filter.mpr ⟨(mem_lgo o q0 q1).mpr hu.1, ?_⟩)
    rw [decide_eq_true_iff, mem_free]
    refine ⟨mem_pairs.mpr ⟨tr, ur⟩, ?_⟩
    cases e : lk (turnsT n es) (t, u) with
    | none => rfl
    | some w => rw [e] at h2; exact absurd rfl h2
  have h6 := eqD_nil (shp_ints1 ((lgo n es q).filter (fun u => decide ((t, u) ∈ freeL n es))))
  have e6 : (((lgo n es q).filter (fun u => decide ((t, u) ∈ freeL n es))).map D.int).isEmpty = false := by
    cases e : (lgo n es q).filter (fun u => decide ((t, u) ∈ freeL n es)) with
    | nil => exact absurd e hsome
    | cons a l => rfl
  rw [e6] at h6
  have hl2 := List.length_filter_le (fun u => decide ((t, u) ∈ freeL n es)) (lgo n es q)
  repeat walk_at "ev1"
  refine hc _ ?_
  repeat walk_at "ev1"
  refine v_ifF htq ?_
  repeat walk_at "ev1"
  refine v_opt h6 ?_
  repeat walk_at "ev1"
  refine v_of hct ?_
  rw [hw]
  repeat walk_at "ev1"
  refine v_pick hsome (by omega) fun x hx => ?_
  repeat walk_at "ev1"
  have hx := List.mem_filter.mp hx
  have xg := (mem_goes.mp ((mem_lgo o q0 q1).mp hx.1)).1
  have xf := (mem_free.mp (of_decide_eq_true hx.2)).2
  exact kJ t x _ tr xg xf
theorem e__law_runs {p q : Int} (p0 : 0 ≤ p) (p1 : p < n) (q0 : 0 ≤ q) (q1 : q < n) (hw : lk (turnsT n es) (p, q) = none) :
    Ev (d__law_runs [.pot, ag (wD n es), ag (.int p), ag (.int q)]) (.val (.bool true)) := fun P k => by
  have hf := e_free_pairs o
  unfold d__law_runs
  repeat walk_at "ev1"
  refine v_of hf ?_
  repeat walk_at "ev1"
  unfold d__law_runs_l1
  repeat walk_at "ev1"
  rw [rng_range (N := 12) rfl]
  refine v_forGo (fun pre ρ => ∃ s2 s3 s5 s6 s7 p q, IsV s2 (.int p) ∧ IsV s3 (.int q) ∧ (0 ≤ p ∧ p < n ∧ 0 ≤ q ∧ q < n) ∧ lk (turnsT n es) (p, q) = none ∧ ρ = rR n es s2 s3 s5 s6 s7)
    ⟨_, _, .un, .un, .un, p, q, .inl ⟨rfl, rfl⟩, .inl ⟨rfl, rfl⟩, ⟨p0, p1, q0, q1⟩, hw, rfl⟩
    (fun pre i post ρ e ⟨s2, s3, s5, s6, s7, p, q, i2, i3, ⟨p0, p1, q0, q1⟩, hw, hx⟩ => ?_) (fun ρ ⟨s2, s3, s5, s6, s7, p, q, i2, i3, _, hw, hx⟩ => ?_)
  · subst hx
    refine ⟨rR n es s2 s3 (.fz (.int (0 + (i : Int)))) s6 s7, rfl, fun J hJ => ?_⟩
    exact runs_b1 o i2 i3 p0 p1 q0 q1 hw fun t x s7 tr xr hf => hJ _ ⟨_, _, _, _, s7, t, x, .inr rfl, .inr rfl, ⟨tr.1, tr.2, xr.1, xr.2⟩, hf, rfl⟩
  · subst hx
    unfold rR
    repeat walk_at "ev1"
    exact k
end
end HK

set_option Elab.async false
set_option linter.all false
set_option maxRecDepth 100000
/-! M52t: the law's web. -/
namespace HK
open PySem PV
local macro_rules | `(tactic| walk_at "op") => `(tactic| with_reducible first | exact eqD_int _ _ | exact neD_int _ _ | exact eqD_pr _ _ | exact neD_pr _ _ | exact ltD_int _ _ | exact inD_ints1 _ _ | exact inD_ints2 _ _ | exact ninD_ints1 _ _ | exact ninD_ints2 _ _ | exact inD_prs1 _ _ | exact inD_prs2 _ _ | exact ninD_prs1 _ _ | exact ninD_prs2 _ _ | exact dget_tn _ _ | exact inD_tn _ _ | exact ninD_tn _ _ | exact dget_tn' _ _ _ | exact inD_tn' _ _ _ | exact ninD_tn' _ _ _ | exact inD_prs1' _ _ _ | exact inD_prs2' _ _ _ | exact ninD_prs1' _ _ _ | exact ninD_prs2' _ _ _ | exact eqD_pr' _ _ _ _ | exact neD_pr' _ _ _ _ | exact sortE_ints _ | exact sortE_prs _ | exact mulD_r _ _ (by with_unfolding_all rfl) | exact mulD_l _ _ (by with_unfolding_all rfl) | exact modD_pos _ _ (by decide) | exact sumD_ints _ | exact all_map _ _ | exact eqD_bool _ _ | exact neD_bool _ _)
local macro_rules | `(tactic| walk_at "call") => `(tactic| fail)
local macro_rules | `(tactic| walk_at "ev1") => `(tactic| first
  | ((with_reducible refine v_sqnx ?_); try dsimp only [List.set])
  | with_reducible refine v_seq ?_
  | ((with_reducible apply v_fn); rfl; (repeat first | exact En.nil | apply En.consD | apply En.consP | apply En.un))
  | with_reducible refine v_rd ?_
  | with_reducible refine v_fz ?_
  | ((with_reducible apply v_opt); (first | walk_at "op" | ((fail_if_success with_reducible first | refine isEqD ?_ | refine isNeD ?_ | refine isInD ?_ | refine isNinD ?_ | refine isSort ?_ | refine isAll ?_ | refine isAny ?_ | refine isSum ?_ | refine isMax ?_ | refine isMin ?_ | refine isIndex ?_ | refine isMod ?_ | refine isPow ?_); rfl)))
  | ((with_reducible apply v_var_fz); rfl)
  | ((with_reducible apply v_var_own); rfl)
  | ((with_reducible apply v_var_rd); rfl; rfl)
  | ((with_reducible apply v_var_bx); rfl; rfl)
  | ((with_reducible apply v_var_pot); rfl)
  | ((with_reducible apply v_var_V); rfl; assumption)
  | ((with_reducible apply v_fixV); rfl; assumption)
  | with_reducible refine v_cst ?_
  | with_reducible refine v_u2 ?_
  | with_reducible refine v_u1 ?_
  | with_reducible refine v_plusI ?_
  | with_reducible refine v_plusL ?_
  | with_reducible refine v_plusT ?_
  | with_reducible refine v_vl2 ?_
  | with_reducible refine v_vl ?_
  | with_reducible refine v_nw ?_
  | with_reducible refine v_nw2 ?_
  | with_reducible refine v_tst ?_
  | with_reducible refine v_bK ?_
  | with_reducible refine v_iK ?_
  | with_reducible refine v_c2K ?_
  | with_reducible refine v_cal ?_
  | with_reducible refine v_gcons ?_
  | with_reducible refine v_gnil ?_
  | with_reducible refine v_lcons ?_
  | with_reducible refine v_lnil ?_
  | with_reducible refine v_lstar ?_
  | with_reducible refine v_tup ?_
  | with_reducible refine v_lst ?_
  | with_reducible refine v_sset ?_
  | with_reducible refine v_sif ?_
  | with_reducible refine v_sret ?_
  | with_reducible refine v_drop ?_
  | with_reducible refine v_nil ?_
  | with_reducible refine v_asg ?_
  | with_reducible refine v_break ?_
  | with_reducible refine v_cont ?_
  | ((with_reducible apply v_fixO); rfl)
  | ((with_reducible apply v_fixF); rfl)
  | ((with_reducible apply v_fixR); rfl)
  | ((with_reducible apply v_fixU); rfl)
  | ((with_reducible apply v_fix); rfl)
  | ((with_reducible apply v_own1); rfl; rfl)
  | ((with_reducible apply v_own2); rfl; rfl)
  | ((with_reducible apply v_own0); rfl; rfl; rfl; exact Nat.le_of_ble_eq_true rfl)
  | ((with_reducible apply v_put); rfl)
  | ((with_reducible refine v_par ?_ ?_); exact ⟨Nat.le_of_ble_eq_true rfl, Nat.le_of_ble_eq_true rfl⟩)
  | with_reducible refine v_for ?_
  | with_reducible refine v_wseq ?_
  | with_reducible refine v_rng1 ?_
  | with_reducible refine v_rng2 ?_
  | with_reducible refine v_tand ?_
  | with_reducible refine v_tor ?_
  | with_reducible refine v_tnot ?_
  | with_reducible refine v_yes ?_
  | with_reducible refine v_ife ?_
  | with_reducible refine v_pand ?_
  | with_reducible refine v_por ?_
  | with_reducible refine v_pnot ?_
  | with_reducible refine v_chn ?_
  | with_reducible refine v_get1 ?_
  | with_reducible refine v_get2 ?_
  | with_reducible refine v_ind ?_
  | with_reducible refine v_newK ?_
  | with_reducible refine v_newT ?_
  | with_reducible refine v_sle ?_
  | with_reducible refine v_ono ?_
  | with_reducible refine v_osome ?_
  | with_reducible refine v_sqrt ?_
  | with_reducible refine v_rKrt ?_
  | with_reducible refine v_rKnx ?_
  | with_reducible refine v_fKnx ?_
  | with_reducible refine v_fKrt ?_
  | with_reducible refine v_fKbk ?_
  | with_reducible refine v_fKct ?_
  | with_reducible refine v_sqbk ?_
  | with_reducible refine v_sqct ?_
  | with_reducible refine v_iteT ?_
  | with_reducible refine v_iteF ?_
  | with_reducible refine And.intro (Nat.le_of_ble_eq_true rfl) ?_
  | refine And.intro rfl ?_
  | ((with_reducible apply v_ifF); rfl)
  | ((with_reducible apply v_ifT); rfl)
  | walk_at "call")
structure TI (m : Nat) (j : Nat) (es : List Pr) : Prop where
  rg : ∀ e ∈ es, 0 ≤ e.1 ∧ e.1 < e.2 ∧ e.2 < m
  nd : es.Nodup
  con : ∀ v : Int, 1 ≤ v → v ≤ j → ∃ u, 0 ≤ u ∧ u < v ∧ (u, v) ∈ es
theorem ti_len {m j : Nat} {es : List Pr} (h : TI m j es) (hm : m ≤ 6) : es.length ≤ 36 := by
  have := len_sub (m := pairs m) h.nd fun x hx => by
    have := h.rg x hx
    exact mem_pairs.mpr (by omega)
  rw [pairs_len] at this
  have := Nat.mul_le_mul hm hm
  omega
theorem ti_sort {m : Nat} {es : List Pr} (h3 : 3 ≤ m) (h5 : m ≤ 5) (h : TI m (m - 1) es) : OkW m (psort es) := by
  have hp := psort_perm es
  have hs := psort_sorted es
  have hn : (psort es).Nodup := hp.nodup_iff.mpr h.nd
  have hl := ti_len h (by omega)
  refine ⟨h3, h5, fun e he => h.rg e (hp.mem_iff.mp he), ?_, by rw [hp.length_eq]; omega, fun v v1 v2 => ?_⟩
  · refine (hs.and hn).imp fun {x y} h => ?_
    have a := of_decide_eq_true h.1
    have : ¬ (x.1 = y.1 ∧ x.2 = y.2) := fun z => h.2 (Prod.ext z.1 z.2)
    omega
  · obtain ⟨u, u0, u1, hu⟩ := h.con v v1 (by omega)
    exact ⟨u, u0, u1, hp.mem_iff.mpr hu⟩
def wR (m : Nat) (es : List Pr) (a b c d e : Sl) : Rho := [.pot, .rd (.int m), .own (.list (es.map prD)), a, b, c, d, e]
theorem law_web {m : Nat} {P : Re → Prop} (h3 : 3 ≤ m) (h5 : m ≤ 5) (k : ∀ es, OkW m es → P (.val (wD m es))) : d__law_web [.pot, ag (.int m)] P := by
  have hap : ∀ (es : List Pr) (u v : Int), es.length < 100 → appD (.list (es.map prD)) (.tuple [.int u, .int v]) = some (.list ((es ++ [(u, v)]).map prD)) := fun es u v hl => by
    show (if (es.map prD).length < lim then some (D.list (es.map prD ++ [prD (u, v)])) else none) = _
    rw [if_pos (by rw [List.length_map]; unfold lim; omega), List.map_append]; rfl
  unfold d__law_web
  repeat walk_at "ev1"
  unfold d__law_web_l1
  repeat walk_at "ev1"
  refine ⟨by unfold okRng lim; exact decide_eq_true ⟨by omega, by omega, by omega⟩, ?_⟩
  rw [rng_range (N := m - 1) (by omega)]
  refine v_forGo (fun pre ρ => ∃ es a, TI m pre.length es ∧ (∀ e ∈ es, e.2 ≤ pre.length) ∧ ρ = wR m es a .un .un .un .un) ⟨[], .un, ⟨(fun e he => nomatch he), List.nodup_nil, (fun v v1 v2 => absurd v1 (by have v2 : v ≤ 0 := v2; omega))⟩, (fun e he => nomatch he), rfl⟩
    (fun pre i post ρ e ⟨es, a, I, ht, hx⟩ => ?_) (fun ρ ⟨es, a, I, _, hx⟩ => ?_)
  · subst hx
    obtain ⟨e1, e2⟩ := range_at e
    subst e1
    refine ⟨wR m es (.fz (.int (1 + (pre.length : Int)))) .un .un .un .un, rfl, fun J hJ => ?_⟩
    have hl := ti_len I (by omega)
    unfold d__law_web_b1 wR
    repeat walk_at "ev1"
    refine v_draw (by omega) (by omega) fun u u0 u1 => ?_
    repeat walk_at "ev1"
    refine v_opt (hap es u _ (by omega)) ?_
    repeat walk_at "ev1"
    refine hJ _ ⟨es ++ [(u, 1 + (pre.length : Int))], _, ⟨fun e he => ?_, ?_, fun v v1 v2 => ?_⟩, fun e he => ?_, rfl⟩
    · rcases List.mem_append.mp he with h | h
      · exact I.rg e h
      · rw [List.mem_singleton] at h; subst h
        exact ⟨u0, by show u < 1 + (pre.length : Int); omega, by show 1 + (pre.length : Int) < m; omega⟩
    · rw [List.nodup_append]
      refine ⟨I.nd, by simp, fun x hx y hy e => ?_⟩
      rw [List.mem_singleton] at hy; subst hy; subst e
      have : 1 + (pre.length : Int) ≤ pre.length := ht _ hx
      omega
    · rw [List.length_append, List.length_singleton] at v2
      by_cases c : v ≤ pre.length
      · obtain ⟨w, w0, w1, hw⟩ := I.con v v1 c
        exact ⟨w, w0, w1, List.mem_append_left _ hw⟩
      · have : v = 1 + (pre.length : Int) := by omega
        subst this
        exact ⟨u, u0, by omega, by simp⟩
    · rw [List.length_append, List.length_singleton]
      rcases List.mem_append.mp he with h | h
      · have := ht e h; omega
      · rw [List.mem_singleton] at h; subst h
        show 1 + (pre.length : Int) ≤ _
        omega
  · subst hx
    rw [List.length_range] at I
    unfold wR
    repeat walk_at "ev1"
    unfold d__law_web_l2
    repeat walk_at "ev1"
    refine v_draw (by omega) (by omega) fun r r0 r1 => ?_
    repeat walk_at "ev1"
    refine ⟨by unfold okRng lim; exact decide_eq_true ⟨by omega, by omega, by omega⟩, ?_⟩
    rw [rng_range (N := r.toNat) (by omega)]
    refine v_forGo (fun pre ρ => ∃ es b c d e, TI m (m - 1) es ∧ ρ = wR m es a b c d e) ⟨es, .un, .un, .un, .un, I, rfl⟩
      (fun pre i post ρ e ⟨es, b, c, d, e', I, hx⟩ => ?_) (fun ρ ⟨es, b, c, d, e, I, hx⟩ => ?_)
    · subst hx
      refine ⟨wR m es a (.fz (.int (0 + (i : Int)))) c d e', rfl, fun J hJ => ?_⟩
      have hl := ti_len I (by omega)
      unfold d__law_web_b2 wR
      repeat walk_at "ev1"
      refine v_draw (by omega) (by omega) fun p p0 p1 => ?_
      repeat walk_at "ev1"
      refine v_draw (by omega) (by omega) fun q q0 q1 => ?_
      repeat walk_at "ev1"
      have same : ∀ c' d' e' : Sl, J [.pot, .rd (.int m), .own (.list (es.map prD ++ [])), a, .fz (.int (0 + (i : Int))), c', d', e'] := fun c' d' e' => by
        rw [List.append_nil]
        exact hJ _ ⟨es, _, c', d', e', I, rfl⟩
      have hle : (es.map prD).length + 1 ≤ lim := by rw [List.length_map]; exact limB (by omega)
      refine v_ite (fun e1 => ?_) (fun e1 => ?_)
      · repeat walk_at "ev1"
        refine v_ite (fun e2 => ?_) (fun e2 => ?_)
        · repeat walk_at "ev1"
          refine ⟨hle, ?_⟩
          repeat walk_at "ev1"
          have hne : p ≠ q := by simpa using e1
          have hni : (if q < p then q else p, if q > p then q else p) ∉ es := by simpa using e2
          have hpq : 0 ≤ (if q < p then q else p) ∧ (if q < p then q else p) < (if q > p then q else p) ∧ (if q > p then q else p) < (m : Int) := by
            by_cases c : q < p
            · rw [if_pos c, if_neg (by omega)]; omega
            · rw [if_neg c, if_pos (by omega)]; omega
          generalize (if q < p then q else p) = x at hni hpq ⊢
          generalize (if q > p then q else p) = y at hni hpq ⊢
          refine hJ _ ⟨es ++ [(x, y)], .fz (.int (0 + (i : Int))), .fz (.tuple [.int x, .int y]), .fz (.int p), .fz (.int q), ⟨fun e he => ?_, ?_, fun v v1 v2 => ?_⟩, ?_⟩
          · rcases List.mem_append.mp he with h | h
            · exact I.rg e h
            · rw [List.mem_singleton] at h; subst h
              exact hpq
          · rw [List.nodup_append]
            refine ⟨I.nd, by simp, fun z hx w hy e => ?_⟩
            rw [List.mem_singleton] at hy; subst hy; subst e
            exact hni hx
          · obtain ⟨u, u0, u1, hu⟩ := I.con v v1 v2
            exact ⟨u, u0, u1, List.mem_append_left _ hu⟩
          · unfold wR
            rw [List.map_append]
            rfl
        · repeat walk_at "ev1"
          refine ⟨by rw [List.length_nil]; omega, ?_⟩
          repeat walk_at "ev1"
          exact same _ _ _
      · repeat walk_at "ev1"
        refine ⟨by rw [List.length_nil]; omega, ?_⟩
        repeat walk_at "ev1"
        exact same _ _ _
    · subst hx
      unfold wR
      repeat walk_at "ev1"
      exact k _ (ti_sort h3 h5 I)
end HK

set_option Elab.async false
set_option linter.all false
set_option maxRecDepth 100000
/-! M52u: the law. -/
namespace HK
open PySem PV
local macro_rules | `(tactic| walk_at "op") => `(tactic| with_reducible first | exact eqD_int _ _ | exact neD_int _ _ | exact eqD_pr _ _ | exact neD_pr _ _ | exact ltD_int _ _ | exact inD_ints1 _ _ | exact inD_ints2 _ _ | exact ninD_ints1 _ _ | exact ninD_ints2 _ _ | exact inD_prs1 _ _ | exact inD_prs2 _ _ | exact ninD_prs1 _ _ | exact ninD_prs2 _ _ | exact dget_tn _ _ | exact inD_tn _ _ | exact ninD_tn _ _ | exact dget_tn' _ _ _ | exact inD_tn' _ _ _ | exact ninD_tn' _ _ _ | exact inD_prs1' _ _ _ | exact inD_prs2' _ _ _ | exact ninD_prs1' _ _ _ | exact ninD_prs2' _ _ _ | exact eqD_pr' _ _ _ _ | exact neD_pr' _ _ _ _ | exact sortE_ints _ | exact sortE_prs _ | exact mulD_r _ _ (by with_unfolding_all rfl) | exact mulD_l _ _ (by with_unfolding_all rfl) | exact modD_pos _ _ (by decide) | exact sumD_ints _ | exact all_map _ _ | exact eqD_bool _ _ | exact neD_bool _ _)
local macro_rules | `(tactic| walk_at "call") => `(tactic| fail)
local macro_rules | `(tactic| walk_at "ev1") => `(tactic| first
  | ((with_reducible refine v_sqnx ?_); try dsimp only [List.set])
  | with_reducible refine v_seq ?_
  | ((with_reducible apply v_fn); rfl; (repeat first | exact En.nil | apply En.consD | apply En.consP | apply En.un))
  | with_reducible refine v_rd ?_
  | with_reducible refine v_fz ?_
  | ((with_reducible apply v_opt); (first | walk_at "op" | ((fail_if_success with_reducible first | refine isEqD ?_ | refine isNeD ?_ | refine isInD ?_ | refine isNinD ?_ | refine isSort ?_ | refine isAll ?_ | refine isAny ?_ | refine isSum ?_ | refine isMax ?_ | refine isMin ?_ | refine isIndex ?_ | refine isMod ?_ | refine isPow ?_); rfl)))
  | ((with_reducible apply v_var_fz); rfl)
  | ((with_reducible apply v_var_own); rfl)
  | ((with_reducible apply v_var_rd); rfl; rfl)
  | ((with_reducible apply v_var_bx); rfl; rfl)
  | ((with_reducible apply v_var_pot); rfl)
  | ((with_reducible apply v_var_V); rfl; assumption)
  | ((with_reducible apply v_fixV); rfl; assumption)
  | with_reducible refine v_cst ?_
  | with_reducible refine v_u2 ?_
  | with_reducible refine v_u1 ?_
  | with_reducible refine v_plusI ?_
  | with_reducible refine v_plusL ?_
  | with_reducible refine v_plusT ?_
  | with_reducible refine v_vl2 ?_
  | with_reducible refine v_vl ?_
  | with_reducible refine v_nw ?_
  | with_reducible refine v_nw2 ?_
  | with_reducible refine v_tst ?_
  | with_reducible refine v_bK ?_
  | with_reducible refine v_iK ?_
  | with_reducible refine v_c2K ?_
  | with_reducible refine v_cal ?_
  | with_reducible refine v_gcons ?_
  | with_reducible refine v_gnil ?_
  | with_reducible refine v_lcons ?_
  | with_reducible refine v_lnil ?_
  | with_reducible refine v_lstar ?_
  | with_reducible refine v_tup ?_
  | with_reducible refine v_lst ?_
  | with_reducible refine v_sset ?_
  | with_reducible refine v_sif ?_
  | with_reducible refine v_sret ?_
  | with_reducible refine v_drop ?_
  | with_reducible refine v_nil ?_
  | with_reducible refine v_asg ?_
  | with_reducible refine v_break ?_
  | with_reducible refine v_cont ?_
  | ((with_reducible apply v_fixO); rfl)
  | ((with_reducible apply v_fixF); rfl)
  | ((with_reducible apply v_fixR); rfl)
  | ((with_reducible apply v_fixU); rfl)
  | ((with_reducible apply v_fix); rfl)
  | ((with_reducible apply v_own1); rfl; rfl)
  | ((with_reducible apply v_own2); rfl; rfl)
  | ((with_reducible apply v_own0); rfl; rfl; rfl; exact Nat.le_of_ble_eq_true rfl)
  | ((with_reducible apply v_put); rfl)
  | ((with_reducible refine v_par ?_ ?_); exact ⟨Nat.le_of_ble_eq_true rfl, Nat.le_of_ble_eq_true rfl⟩)
  | with_reducible refine v_for ?_
  | with_reducible refine v_wseq ?_
  | with_reducible refine v_rng1 ?_
  | with_reducible refine v_rng2 ?_
  | with_reducible refine v_tand ?_
  | with_reducible refine v_tor ?_
  | with_reducible refine v_tnot ?_
  | with_reducible refine v_yes ?_
  | with_reducible refine v_ife ?_
  | with_reducible refine v_pand ?_
  | with_reducible refine v_por ?_
  | with_reducible refine v_pnot ?_
  | with_reducible refine v_chn ?_
  | with_reducible refine v_get1 ?_
  | with_reducible refine v_get2 ?_
  | with_reducible refine v_ind ?_
  | with_reducible refine v_newK ?_
  | with_reducible refine v_newT ?_
  | with_reducible refine v_sle ?_
  | with_reducible refine v_ono ?_
  | with_reducible refine v_osome ?_
  | with_reducible refine v_sqrt ?_
  | with_reducible refine v_rKrt ?_
  | with_reducible refine v_rKnx ?_
  | with_reducible refine v_fKnx ?_
  | with_reducible refine v_fKrt ?_
  | with_reducible refine v_fKbk ?_
  | with_reducible refine v_fKct ?_
  | with_reducible refine v_sqbk ?_
  | with_reducible refine v_sqct ?_
  | with_reducible refine v_iteT ?_
  | with_reducible refine v_iteF ?_
  | with_reducible refine And.intro (Nat.le_of_ble_eq_true rfl) ?_
  | refine And.intro rfl ?_
  | ((with_reducible apply v_ifF); rfl)
  | ((with_reducible apply v_ifT); rfl)
  | walk_at "call")
def qR (n : Nat) (es : List Pr) (a b c d : Sl) : Rho := [.pot, .fz (wD n es), .own (.dt (tnD (turnsT n es))), a, b, c, d]
section
variable {n : Nat} {es : List Pr} (o : OkW n es)
include o
theorem web_right_b1 {a b c d : Sl} {J : Rho → Prop} {P : Fl → Prop} (k : ∀ b c d, J (qR n es a b c d)) : d__law_web_right_b1 (qR n es a b c d) (fK J P) := by
  have n3 := o.n3
  have n5 := o.n5
  have tf := turns_tf o
  unfold d__law_web_right_b1 qR
  repeat walk_at "ev1"
  refine v_draw (by omega) (by omega) fun p p0 p1 => ?_
  repeat walk_at "ev1"
  refine v_draw (by omega) (by omega) fun q q0 q1 => ?_
  repeat walk_at "ev1"
  refine v_of (e_chase_turns o p0 p1 q0 q1) ?_
  unfold optD
  repeat walk_at "ev1"
  refine v_opt (neD_optI _ _) ?_
  rw [decide_eq_true rfl]
  repeat walk_at "ev1"
  cases hv : lk (turnsT n es) (p, q) with
  | none =>
    dsimp only [Option.map, Option.getD]
    repeat walk_at "ev1"
    refine e__law_runs o p0 p1 q0 q1 hv _ ?_
    repeat walk_at "ev1"
    exact k _ _ _
  | some v =>
    dsimp only [Option.map, Option.getD]
    repeat walk_at "ev1"
    refine e__law_hunted o p0 p1 q0 q1 hv fun m _ hm => ?_
    have hm := hm rfl
    subst hm
    repeat walk_at "ev1"
    rw [decide_eq_true (rfl : m = m)]
    repeat walk_at "ev1"
    refine e__law_hunted o p0 p1 q0 q1 hv fun m' hm _ => ?_
    repeat walk_at "ev1"
    have hg : decide (m < m') = false := decide_eq_false (by omega)
    rw [hg]
    repeat walk_at "ev1"
    exact k _ _ _
end
theorem e__law_web_right : Ev (d__law_web_right [.pot]) (.val (.bool true)) := fun P k => by
  unfold d__law_web_right
  repeat walk_at "ev1"
  refine v_draw (by omega) (by omega) fun r r0 r1 => ?_
  repeat walk_at "ev1"
  have er : 3 + r = ((3 + r.toNat : Nat) : Int) := by omega
  rw [er]
  refine law_web (by omega) (by omega) fun es o => ?_
  generalize 3 + r.toNat = n at o ⊢
  have n3 := o.n3
  have n5 := o.n5
  repeat walk_at "ev1"
  refine e__law_turns o _ ?_
  repeat walk_at "ev1"
  unfold d__law_web_right_l1
  repeat walk_at "ev1"
  show forGo (tName 3) d__law_web_right_b1 (([0, 1, 2] : List Int).map D.int) _ _
  refine v_forGo (fun pre ρ => ∃ a b c d, ρ = qR n es a b c d) ⟨.un, .un, .un, .un, rfl⟩ (fun pre i post ρ e ⟨a, b, c, d, hx⟩ => ?_) (fun ρ ⟨a, b, c, d, hx⟩ => ?_)
  · subst hx
    exact ⟨qR n es (.fz (.int i)) b c d, rfl, fun J hJ => web_right_b1 o fun b c d => hJ _ ⟨_, b, c, d, rfl⟩⟩
  · subst hx
    have hb := e_is_bare o
    have hcc := e_can_chase o
    have hfr := e_fold_row o
    have hfp := e_free_pairs o
    have hfi := fold_iff o
    have h6 := eqD_nilT (shp_prs2 (freeL n es))
    have e6 : ((freeL n es).map prD).isEmpty = (freeL n es).isEmpty := by cases freeL n es <;> rfl
    rw [e6] at h6
    have fin : ((decide ((((fdd n es n ([], ups n)).1.map prD).length : Int) = (n : Int) - 1)) == (freeL n es).isEmpty) = true := by
      rw [beq_iff_eq, Bool.eq_iff_iff, decide_eq_true_iff, List.isEmpty_iff, List.length_map, ← hfi]
      omega
    have last : sRet (u2 (vl2 eqD) (u2 (vl2 eqD) (u1 lenM (calE d_fold_row (gcons (var 1) gnil))) (u2 (vl2 subD) (u2 (vl2 ixD) (var 1) (cst (.int 0))) (cst (.int 1)))) (u2 (vl2 eqD) (calE d_free_pairs (gcons (var 1) gnil)) (tupE lnil))) (qR n es a b c d) (rK P) := by
      unfold qR
      repeat walk_at "ev1"
      refine v_of hfr ?_
      repeat walk_at "ev1"
      refine v_of hfp ?_
      repeat walk_at "ev1"
      refine v_opt h6 ?_
      repeat walk_at "ev1"
      rw [fin]
      exact k
    unfold qR at last ⊢
    generalize sRet (u2 (vl2 eqD) (u2 (vl2 eqD) (u1 lenM (calE d_fold_row (gcons (var 1) gnil))) (u2 (vl2 subD) (u2 (vl2 ixD) (var 1) (cst (.int 0))) (cst (.int 1)))) (u2 (vl2 eqD) (calE d_free_pairs (gcons (var 1) gnil)) (tupE lnil))) = S at last ⊢
    repeat walk_at "ev1"
    refine v_of hb ?_
    repeat walk_at "ev1"
    refine v_ite (fun e => ?_) (fun e => ?_)
    · repeat walk_at "ev1"
      refine v_of hcc ?_
      rw [bare_free o (of_decide_eq_true e)]
      repeat walk_at "ev1"
      exact last
    · repeat walk_at "ev1"
      exact last
theorem e__law_right : Ev (d__law_right [.pot]) (.val (.bool true)) := fun P k => by
  unfold d__law_right
  repeat walk_at "ev1"
  unfold d__law_right_c1
  refine v_ev (lc_EvY (f := fun i : Nat => D.int (0 + (i : Nat))) (l := List.range 5) (g := fun _ => D.bool true) ?_ (fun i hi => ⟨[.pot, .fz (.int (0 + (i : Nat)))], rfl, ?_⟩) (limB (by simp))) ?_
  · intro P k
    repeat walk_at "ev1"
    exact k
  · intro P k
    repeat walk_at "ev1"
    refine e__law_web_right _ ?_
    repeat walk_at "ev1"
    exact k
  · repeat walk_at "ev1"
    exact k
def pR0 (ns : List Int) (turn cell st : Int) (x : Sl) : Rho := [.rd (.list (ns.map D.int)), .fz (.int turn), .fz (.int cell), .fz (.int st), x]
theorem law_pot {ns : List Int} {turn : Int} {P : Re → Prop} (hn : ns.length ≤ 63) (ht : 0 ≤ turn ∧ turn ≤ 1) (k : ∀ x y z : Int, 0 ≤ x → 0 ≤ y → y < 2147483648 → 0 ≤ z → P (.fr (.list [.int x, .int y, .int z]))) : d__law_pot [ag (.list (ns.map D.int)), ag (.int turn)] P := by
  have cut3 : cutD (ns.map D.int) none (some 3) = (ns.take 3).map D.int := by rw [List.map_take]; exact cut_to _ 3
  have cut7 : cutD (ns.map D.int) none (some 7) = (ns.take 7).map D.int := by rw [List.map_take]; exact cut_to _ 7
  have fin : ∀ cell : Int, ∀ s4, d__law_pot_l1 [.rd (.list (ns.map D.int)), .rd (.int turn), .fz (.int cell), .fz (.int (1005903 + 13147 * turn)), s4] (PV.sq (sSeq (sFixM 3) (sRet (lstE (lcons (ife (tor (tst (u2 (vl2 ltD) (var 2) (cst (.int 0)))) (tst (u2 (vl2 geD) (var 2) (u2 (vl2 powD) (cst (.int 10)) (cst (.int 18)))))) (u2 (vl2 modD) (u1 (vl intD) (u1 (vl absD) (var 2))) (u2 (vl2 powD) (cst (.int 10)) (cst (.int 60)))) (cst (.int 0))) (lcons (var 3) (lcons (cst (.int 0)) lnil)))))) (rK P)) := by
    intro cell s4
    have lt : (ns.take 7).length ≤ 7 := by rw [List.length_take]; omega
    unfold d__law_pot_l1
    repeat walk_at "ev1"
    refine v_slL ?_
    rw [cut7]
    repeat walk_at "ev1"
    refine ⟨by rw [List.length_map, List.length_singleton]; exact limB (by omega), ?_⟩
    repeat walk_at "ev1"
    have e : (ns.take 7).map D.int ++ [D.int cell] = (ns.take 7 ++ [cell]).map D.int := by rw [List.map_append]; rfl
    rw [e]
    refine v_forGo (fun pre ρ => ∃ st x, 0 ≤ st ∧ st < 2147483648 ∧ ρ = [.rd (.list (ns.map D.int)), .rd (.int turn), .fz (.int cell), .fz (.int st), x]) ⟨1005903 + 13147 * turn, s4, by omega, by omega, rfl⟩
      (fun pre i post ρ e ⟨st, x, h0, h1, hx⟩ => ?_) (fun ρ ⟨st, x, h0, h1, hx⟩ => ?_)
    · subst hx
      refine ⟨[.rd (.list (ns.map D.int)), .rd (.int turn), .fz (.int cell), .fz (.int st), .fz (.int i)], rfl, fun J hJ => ?_⟩
      unfold d__law_pot_b1
      repeat walk_at "ev1"
      exact hJ _ ⟨_, _, Int.emod_nonneg _ (by decide), Int.lt_of_lt_of_le (Int.emod_lt_of_pos _ (by decide)) (by decide), rfl⟩
    · subst hx
      repeat walk_at "ev1"
      have last : ∀ v : Int, 0 ≤ v → P (.fr (.list [.int v, .int st, .int 0])) := fun v hv => k _ _ _ hv h0 h1 (by decide)
      refine v_ite (fun e1 => ?_) (fun e1 => ?_)
      · repeat walk_at "ev1"
        refine v_opt (powD_c 10 60 ⟨by decide, by decide, rfl⟩) ?_
        repeat walk_at "ev1"
        exact last _ (Int.emod_nonneg _ (by decide))
      · repeat walk_at "ev1"
        refine v_opt (powD_c 10 18 ⟨by decide, by decide, rfl⟩) ?_
        repeat walk_at "ev1"
        refine v_ite (fun e2 => ?_) (fun e2 => ?_)
        · repeat walk_at "ev1"
          refine v_opt (powD_c 10 60 ⟨by decide, by decide, rfl⟩) ?_
          repeat walk_at "ev1"
          exact last _ (Int.emod_nonneg _ (by decide))
        · repeat walk_at "ev1"
          exact last 0 (by decide)
  unfold d__law_pot
  repeat walk_at "ev1"
  refine v_ite (fun e1 => ?_) (fun e1 => ?_)
  · have e1 := of_decide_eq_true e1
    rw [List.length_map] at e1
    obtain ⟨x, _, h1, _⟩ := ixD_in (f := D.int) ht.1 e1
    repeat walk_at "ev1"
    refine v_opt h1 ?_
    repeat walk_at "ev1"
    exact fin x _
  · repeat walk_at "ev1"
    refine v_slL ?_
    rw [cut3]
    repeat walk_at "ev1"
    exact fin _ _
theorem plain : ∀ ns : List Int, ns.length ≤ 63 → d_law [.d (.list (ns.map D.int))] fun r => r = .val (.bool true) := fun ns hn => by
  unfold d_law
  repeat walk_at "ev1"
  unfold d_law_c1
  refine v_ev (lc_EvY (f := D.int) (l := ([0, 1] : List Int)) (g := fun _ => D.bool true) ?_ (fun i hi => ⟨[.rd (.list (ns.map D.int)), .fz (.int i)], rfl, ?_⟩) (limB (by simp))) ?_
  · intro P k
    repeat walk_at "ev1"
    exact k
  · intro P k
    have hi2 : 0 ≤ i ∧ i ≤ 1 := by
      simp only [List.mem_cons, List.not_mem_nil, or_false] at hi
      omega
    repeat walk_at "ev1"
    refine v_calP (fun P k => ?_) ?_
    · repeat walk_at "ev1"
      exact law_pot hn hi2 fun x y z a b c d => k x y z a b c d
    · refine e__law_right _ ?_
      repeat walk_at "ev1"
      exact k
  · repeat walk_at "ev1"
    rfl
end HK

set_option Elab.async false
set_option linter.all false
set_option maxRecDepth 100000
set_option maxHeartbeats 0
namespace HK
open PySem PySem.Spec L2 PV
def top (i : Nat) : Stmt := PySem.Challenge.pw_nesthunts_k52_whole_chases_played.main.body.getD i (.Pass ⟨0, 0, 0, 0⟩)
/-- what the module's names hold -/
structure Gs (mg : Str → Option Value) : Prop where
  f_ValueError : mg "ValueError" = none
  f_abs : mg "abs" = none
  f_all : mg "all" = none
  f_bool : mg "bool" = none
  f_dict : mg "dict" = none
  f_divmod : mg "divmod" = none
  f_enumerate : mg "enumerate" = none
  f_int : mg "int" = none
  f_isinstance : mg "isinstance" = none
  f_len : mg "len" = none
  f_list : mg "list" = none
  f_max : mg "max" = none
  f_min : mg "min" = none
  f_range : mg "range" = none
  f_sorted : mg "sorted" = none
  f_sum : mg "sum" = none
  f_tuple : mg "tuple" = none
  f_zip : mg "zip" = none
  i_MOST_PLACES : ∃ t, mg "MOST_PLACES" = some (.int 6 t)
section
variable {P : Program} {w : World} {K : PySem.W.Frag} {mg : Str → Option Value} {base : Heap} {f : Addr} {fd : FuncData}
theorem sc_is_whole : FnScope ["value"] ["value"] (defScope (top 1)) := ⟨rfl, rfl, rfl, by decide +kernel, rfl, by decide +kernel, by decide +kernel⟩
theorem ok_is_whole (g : Gs mg)  (F : FunD K "is_whole" "is_whole" (defArgs (top 1)) (defBody (top 1)) (defScope (top 1)) [] [] f fd) : FnOk P w K mg base CX0 1 f fd ["value"] (spP K d_is_whole) :=
  def_ok F sc_is_whole rfl rfl (by decide) fun cdv A outer s H E hr => (pb_one (pp_ret (px_and (px_isi tyok_int g.f_isinstance g.f_int (px_var 0 (hv := Or.inl (by kernel_rfl)))) (px_one (px_not (px_isi tyok_bool g.f_isinstance g.f_bool (px_var 0 (hv := Or.inl (by kernel_rfl)))))))))
theorem sc_is_between : FnScope ["value", "low", "high"] ["value", "low", "high"] (defScope (top 2)) := ⟨rfl, rfl, rfl, by decide +kernel, rfl, by decide +kernel, by decide +kernel⟩
theorem ok_is_between (g : Gs mg) (C_is_whole : Cal P w K mg base 1 "is_whole" ["value"] d_is_whole) (F : FunD K "is_between" "is_between" (defArgs (top 2)) (defBody (top 2)) (defScope (top 2)) [] [] f fd) : FnOk P w K mg base CX0 2 f fd ["value", "low", "high"] (spP K d_is_between) :=
  def_ok F sc_is_between rfl rfl (by decide) fun cdv A outer s H E hr => (pb_one (pp_ret (px_and (px_cal C_is_whole hr (by decide) (pg_cons' (px_var 0 (hv := Or.inl (by kernel_rfl))) pg_nil')) (px_one (px_chain (f := fun i j => decide (i ≤ j)) (g := fun i j => decide (i ≤ j)) op_le op_le (px_var 1 (hv := Or.inl (by kernel_rfl))) (px_var 0 (hv := Or.inl (by kernel_rfl))) (px_var 2 (hv := Or.inl (by kernel_rfl))))))))
theorem sc_is_tuple_of : FnScope ["value", "many"] ["value", "many"] (defScope (top 3)) := ⟨rfl, rfl, rfl, by decide +kernel, rfl, by decide +kernel, by decide +kernel⟩
theorem ok_is_tuple_of (g : Gs mg)  (F : FunD K "is_tuple_of" "is_tuple_of" (defArgs (top 3)) (defBody (top 3)) (defScope (top 3)) [] [] f fd) : FnOk P w K mg base CX0 1 f fd ["value", "many"] (spP K d_is_tuple_of) :=
  def_ok F sc_is_tuple_of rfl rfl (by decide) fun cdv A outer s H E hr => (pb_one (pp_ret (px_and (px_isi tyok_tuple g.f_isinstance g.f_tuple (px_var 0 (hv := Or.inl (by kernel_rfl)))) (px_one (px_cmp (op_eqD (Room.up hr 64 (by decide))) o_eq (px_b1 cr_lens o_len g.f_len (px_var 0 (hv := Or.inl (by kernel_rfl)))) (px_var 1 (hv := Or.inl (by kernel_rfl))) (by rfl))))))
theorem sc_is_ascending : FnScope ["row", "one", "two"] ["row"] (defScope (top 4)) := ⟨rfl, rfl, rfl, by decide +kernel, rfl, by decide +kernel, by decide +kernel⟩
theorem ok_is_ascending (g : Gs mg)  (F : FunD K "is_ascending" "is_ascending" (defArgs (top 4)) (defBody (top 4)) (defScope (top 4)) [] [] f fd) : FnOk P w K mg base CX0 1 f fd ["row"] (spP K d_is_ascending) :=
  def_ok F sc_is_ascending rfl rfl (by decide) fun cdv A outer s H E hr => (pb_one (pp_ret (px_b1 (cr_all rfl) o_all g.f_all (px_lc (own := [("one", 1), ("two", 2)]) (ts := [1, 2]) rfl sc_is_ascending.nd (w_zip g.f_zip (px_var 0 (hv := Or.inl (by kernel_rfl))) (px_slice (px_var 0 (hv := Or.inl (by kernel_rfl))) (po_so px_int) po_no)) (blkOk_by (by kernel_rfl)) (fun _ _ _ _ _ => (tg_tup rfl (tgs_cons (tg_name sc_is_ascending.nd (hx := Or.inl (by kernel_rfl)) (hf := Or.inr (by kernel_rfl))) (tgs_cons (tg_name sc_is_ascending.nd (hx := Or.inl (by kernel_rfl)) (hf := Or.inr (by kernel_rfl))) tgs_nil)) (tgl_cons (tgl_cons tgl_nil)))) (fun _ _ _ _ _ => pts_no) (fun _ _ _ _ _ => (px_cmp (op_lt2 (Room.up hr 64 (by decide))) o_lt (px_var 1 (hv := Or.inl (by kernel_rfl))) (px_var 2 (hv := Or.inl (by kernel_rfl))) (by rfl)))))))
theorem sc_is_place_number : FnScope ["value"] ["value"] (defScope (top 7)) := ⟨rfl, rfl, rfl, by decide +kernel, rfl, by decide +kernel, by decide +kernel⟩
theorem ok_is_place_number (g : Gs mg) (C_is_between : Cal P w K mg base 2 "is_between" ["value", "low", "high"] d_is_between) (F : FunD K "is_place_number" "is_place_number" (defArgs (top 7)) (defBody (top 7)) (defScope (top 7)) [] [] f fd) : FnOk P w K mg base CX0 3 f fd ["value"] (spP K d_is_place_number) :=
  def_ok F sc_is_place_number rfl rfl (by decide) fun cdv A outer s H E hr => (pb_one (pp_ret (px_cal C_is_between hr (by decide) (pg_cons' (px_var 0 (hv := Or.inl (by kernel_rfl))) (pg_cons' px_int (pg_cons' (px_gint g.i_MOST_PLACES) pg_nil'))))))
theorem sc_place_count : FnScope ["web"] ["web"] (defScope (top 8)) := ⟨rfl, rfl, rfl, by decide +kernel, rfl, by decide +kernel, by decide +kernel⟩
theorem ok_place_count (g : Gs mg)  (F : FunD K "place_count" "place_count" (defArgs (top 8)) (defBody (top 8)) (defScope (top 8)) [] [] f fd) : FnOk P w K mg base CX0 1 f fd ["web"] (spP K d_place_count) :=
  def_ok F sc_place_count rfl rfl (by decide) fun cdv A outer s H E hr => (pb_one (pp_ret (px_ix (ix_3 (Room.up hr 1 (by decide))) o_ix (px_var 0 (hv := Or.inl (by kernel_rfl))) px_int plainIx)))
theorem sc_ties_of : FnScope ["web"] ["web"] (defScope (top 9)) := ⟨rfl, rfl, rfl, by decide +kernel, rfl, by decide +kernel, by decide +kernel⟩
theorem ok_ties_of (g : Gs mg)  (F : FunD K "ties_of" "ties_of" (defArgs (top 9)) (defBody (top 9)) (defScope (top 9)) [] [] f fd) : FnOk P w K mg base CX0 1 f fd ["web"] (spP K d_ties_of) :=
  def_ok F sc_ties_of rfl rfl (by decide) fun cdv A outer s H E hr => (pb_one (pp_ret (px_ix (ix_3 (Room.up hr 1 (by decide))) o_ix (px_var 0 (hv := Or.inl (by kernel_rfl))) px_int plainIx)))
theorem sc_places_of : FnScope ["web"] ["web"] (defScope (top 10)) := ⟨rfl, rfl, rfl, by decide +kernel, rfl, by decide +kernel, by decide +kernel⟩
theorem ok_places_of (g : Gs mg)  (F : FunD K "places_of" "places_of" (defArgs (top 10)) (defBody (top 10)) (defScope (top 10)) [] [] f fd) : FnOk P w K mg base CX0 1 f fd ["web"] (spP K d_places_of) :=
  def_ok F sc_places_of rfl rfl (by decide) fun cdv A outer s H E hr => (pb_one (pp_ret (px_listRg1 rfl g.f_range g.f_list (px_ix (ix_3 (Room.up hr 1 (by decide))) o_ix (px_var 0 (hv := Or.inl (by kernel_rfl))) px_int plainIx))))
theorem sc_is_place_of : FnScope ["web", "value"] ["web", "value"] (defScope (top 11)) := ⟨rfl, rfl, rfl, by decide +kernel, rfl, by decide +kernel, by decide +kernel⟩
theorem ok_is_place_of (g : Gs mg) (C_is_between : Cal P w K mg base 2 "is_between" ["value", "low", "high"] d_is_between) (F : FunD K "is_place_of" "is_place_of" (defArgs (top 11)) (defBody (top 11)) (defScope (top 11)) [] [] f fd) : FnOk P w K mg base CX0 3 f fd ["web", "value"] (spP K d_is_place_of) :=
  def_ok F sc_is_place_of rfl rfl (by decide) fun cdv A outer s H E hr => (pb_one (pp_ret (px_cal C_is_between hr (by decide) (pg_cons' (px_var 1 (hv := Or.inl (by kernel_rfl))) (pg_cons' px_int (pg_cons' (px_op op_sub o_sub (px_ix (ix_3 (Room.up hr 1 (by decide))) o_ix (px_var 0 (hv := Or.inl (by kernel_rfl))) px_int plainIx) px_int) pg_nil'))))))
theorem sc_is_tie_of : FnScope ["number", "value", "place"] ["number", "value"] (defScope (top 12)) := ⟨rfl, rfl, rfl, by decide +kernel, rfl, by decide +kernel, by decide +kernel⟩
theorem ok_is_tie_of (g : Gs mg) (C_is_tuple_of : Cal P w K mg base 1 "is_tuple_of" ["value", "many"] d_is_tuple_of) (C_is_between : Cal P w K mg base 2 "is_between" ["value", "low", "high"] d_is_between) (F : FunD K "is_tie_of" "is_tie_of" (defArgs (top 12)) (defBody (top 12)) (defScope (top 12)) [] [] f fd) : FnOk P w K mg base CX0 3 f fd ["number", "value"] (spP K d_is_tie_of) :=
  def_ok F sc_is_tie_of rfl rfl (by decide) fun cdv A outer s H E hr => (pb_one (pp_ret (px_and (px_cal C_is_tuple_of hr (by decide) (pg_cons' (px_var 1 (hv := Or.inl (by kernel_rfl))) (pg_cons' px_int pg_nil'))) (px_and (px_b1 (cr_all rfl) o_all g.f_all (px_lc (own := [("place", 2)]) (ts := [2]) rfl sc_is_tie_of.nd (w_seq (px_var 1 (hv := Or.inl (by kernel_rfl)))) (blkOk_by (by kernel_rfl)) (fun _ _ _ _ _ => (tg_name sc_is_tie_of.nd (hx := Or.inl (by kernel_rfl)) (hf := Or.inr (by kernel_rfl)))) (fun _ _ _ _ _ => pts_no) (fun _ _ _ _ _ => (px_cal C_is_between hr (by decide) (pg_cons' (px_var 2 (hv := Or.inl (by kernel_rfl))) (pg_cons' px_int (pg_cons' (px_op op_sub o_sub (px_var 0 (hv := Or.inr (Or.inl (by kernel_rfl)))) px_int) pg_nil'))))))) (px_one (px_cmp (op_lt2 (Room.up hr 64 (by decide))) o_lt (px_ix (ix_3 (Room.up hr 1 (by decide))) o_ix (px_var 1 (hv := Or.inl (by kernel_rfl))) px_int plainIx) (px_ix (ix_3 (Room.up hr 1 (by decide))) o_ix (px_var 1 (hv := Or.inl (by kernel_rfl))) px_int plainIx) (by rfl)))))))
theorem sc_are_ties : FnScope ["number", "value", "tie"] ["number", "value"] (defScope (top 13)) := ⟨rfl, rfl, rfl, by decide +kernel, rfl, by decide +kernel, by decide +kernel⟩
theorem ok_are_ties (g : Gs mg) (C_is_tie_of : Cal P w K mg base 3 "is_tie_of" ["number", "value"] d_is_tie_of) (C_is_ascending : Cal P w K mg base 1 "is_ascending" ["row"] d_is_ascending) (F : FunD K "are_ties" "are_ties" (defArgs (top 13)) (defBody (top 13)) (defScope (top 13)) [] [] f fd) : FnOk P w K mg base CX0 4 f fd ["number", "value"] (spP K d_are_ties) :=
  def_ok F sc_are_ties rfl rfl (by decide) fun cdv A outer s H E hr => (pb_one (pp_ret (px_and (px_isi tyok_tuple g.f_isinstance g.f_tuple (px_var 1 (hv := Or.inl (by kernel_rfl)))) (px_and (px_b1 (cr_all rfl) o_all g.f_all (px_lc (own := [("tie", 2)]) (ts := [2]) rfl sc_are_ties.nd (w_seq (px_var 1 (hv := Or.inl (by kernel_rfl)))) (blkOk_by (by kernel_rfl)) (fun _ _ _ _ _ => (tg_name sc_are_ties.nd (hx := Or.inl (by kernel_rfl)) (hf := Or.inr (by kernel_rfl)))) (fun _ _ _ _ _ => pts_no) (fun _ _ _ _ _ => (px_cal C_is_tie_of hr (by decide) (pg_cons' (px_var 0 (hv := Or.inr (Or.inl (by kernel_rfl)))) (pg_cons' (px_var 2 (hv := Or.inl (by kernel_rfl))) pg_nil')))))) (px_one (px_cal C_is_ascending hr (by decide) (pg_cons' (px_var 1 (hv := Or.inl (by kernel_rfl))) pg_nil')))))))
theorem sc_neighbours_of : FnScope ["web", "place", "others", "one", "other"] ["web", "place"] (defScope (top 14)) := ⟨rfl, rfl, rfl, by decide +kernel, rfl, by decide +kernel, by decide +kernel⟩
theorem ok_neighbours_of (g : Gs mg) (C_ties_of : Cal P w K mg base 1 "ties_of" ["web"] d_ties_of) (F : FunD K "neighbours_of" "neighbours_of" (defArgs (top 14)) (defBody (top 14)) (defScope (top 14)) [] [] f fd) : FnOk P w K mg base CX0 2 f fd ["web", "place"] (spP K d_neighbours_of) :=
  def_ok F sc_neighbours_of rfl rfl (by decide) fun cdv A outer s H E hr => (pb_cons (pp_setLc (own := [("one", 3), ("other", 4)]) (ts := [3, 4]) rfl sc_neighbours_of.nd (w_seq (px_cal C_ties_of hr (by decide) (pg_cons' (px_var 0 (hv := Or.inl (by kernel_rfl))) pg_nil'))) (blkOk_by (by kernel_rfl)) (fun _ _ _ _ _ => (tg_tup rfl (tgs_cons (tg_name sc_neighbours_of.nd (hx := Or.inl (by kernel_rfl)) (hf := Or.inr (by kernel_rfl))) (tgs_cons (tg_name sc_neighbours_of.nd (hx := Or.inl (by kernel_rfl)) (hf := Or.inr (by kernel_rfl))) tgs_nil)) (tgl_cons (tgl_cons tgl_nil)))) (fun _ _ _ _ _ => (pts_1 (pt_cmp' (op_in3 (Room.up hr 65 (by decide))) o_in (px_var 1 (hv := Or.inr (Or.inl (by kernel_rfl)))) (px_tup (pl_cons (px_var 3 (hv := Or.inl (by kernel_rfl))) (pl_cons (px_var 4 (hv := Or.inl (by kernel_rfl))) pl_nil))) (by rfl)))) (fun _ _ _ _ _ => (px_op op_sub o_sub (px_op op_plus o_plus (px_var 3 (hv := Or.inl (by kernel_rfl))) (px_var 4 (hv := Or.inl (by kernel_rfl)))) (px_var 1 (hv := Or.inr (Or.inl (by kernel_rfl))))))) (pb_one (pp_ret (px_b1 (cr_sorts rfl (Room.up hr 80 (by decide))) o_sorts g.f_sorted (px_var 2 (hv := Or.inl (by kernel_rfl)))))))
theorem sc_part_with : FnScope ["web", "lot", "place", "found", "waiting", "here", "other"] ["web", "lot", "place"] (defScope (top 15)) := ⟨rfl, rfl, rfl, by decide +kernel, rfl, by decide +kernel, by decide +kernel⟩
theorem ok_part_with (g : Gs mg) (C_neighbours_of : Cal P w K mg base 2 "neighbours_of" ["web", "place"] d_neighbours_of) (F : FunD K "part_with" "part_with" (defArgs (top 15)) (defBody (top 15)) (defScope (top 15)) [] [] f fd) : FnOk P w K mg base CX0 3 f fd ["web", "lot", "place"] (spP K d_part_with) :=
  def_ok F sc_part_with rfl rfl (by decide) fun cdv A outer s H E hr => (pb_cons (pp_par rfl sc_part_with.nd px_newK (px_lst (pl_cons (px_var 2 (hv := Or.inl (by kernel_rfl))) pl_nil))) (pb_cons (pp_while PassesOwn.never (pt_cmp' (op_neD (Room.up hr 64 (by decide))) o_ne (px_var 4 (hv := Or.inl (by kernel_rfl))) (px_lst pl_nil) (by rfl)) (pb_cons (pp_pop 4 sc_part_with.nd (hv := Or.inl (by kernel_rfl)) (hy := Or.inl (by kernel_rfl)) (hf := Or.inr (by kernel_rfl))) (pb_one (pp_if (pt_cmp' (op_nin3 (Room.up hr 65 (by decide))) o_nin (px_var 5 (hv := Or.inl (by kernel_rfl))) (px_var 3 (hv := Or.inl (by kernel_rfl))) (by rfl)) (pb_cons (pp_put 3 (Room.up hr 1 (by decide)) (px_var 5 (hv := Or.inl (by kernel_rfl))) px_bl (hvis := Or.inl (by kernel_rfl))) (pb_one (pp_extend 4 (px_lc (own := [("other", 6)]) (ts := [6]) rfl sc_part_with.nd (w_seq (px_cal C_neighbours_of hr (by decide) (pg_cons' (px_var 0 (hv := Or.inl (by kernel_rfl))) (pg_cons' (px_var 5 (hv := Or.inl (by kernel_rfl))) pg_nil')))) (blkOk_by (by kernel_rfl)) (fun _ _ _ _ _ => (tg_name sc_part_with.nd (hx := Or.inl (by kernel_rfl)) (hf := Or.inr (by kernel_rfl)))) (fun _ _ _ _ _ => (pts_1 (pt_cmp' (op_in3 (Room.up hr 65 (by decide))) o_in (px_var 6 (hv := Or.inl (by kernel_rfl))) (px_var 1 (hv := Or.inr (Or.inl (by kernel_rfl)))) (by rfl)))) (fun _ _ _ _ _ => (px_var 6 (hv := Or.inl (by kernel_rfl))))) (hv := Or.inl (by kernel_rfl))))) pb_nil)))) (pb_one (pp_ret (px_t1 call_tuple_of o_tuple g.f_tuple (px_b1 (cr_sorts rfl (Room.up hr 80 (by decide))) o_sorts g.f_sorted (px_var 3 (hv := Or.inl (by kernel_rfl)))))))))
theorem sc_hangs_by : FnScope ["web", "lot"] ["web", "lot"] (defScope (top 16)) := ⟨rfl, rfl, rfl, by decide +kernel, rfl, by decide +kernel, by decide +kernel⟩
theorem ok_hangs_by (g : Gs mg) (C_part_with : Cal P w K mg base 3 "part_with" ["web", "lot", "place"] d_part_with) (F : FunD K "hangs_by" "hangs_by" (defArgs (top 16)) (defBody (top 16)) (defScope (top 16)) [] [] f fd) : FnOk P w K mg base CX0 4 f fd ["web", "lot"] (spP K d_hangs_by) :=
  def_ok F sc_hangs_by rfl rfl (by decide) fun cdv A outer s H E hr => (pb_one (pp_ret (px_cmp (op_eqD (Room.up hr 64 (by decide))) o_eq (px_b1 cr_lens o_len g.f_len (px_cal C_part_with hr (by decide) (pg_cons' (px_var 0 (hv := Or.inl (by kernel_rfl))) (pg_cons' (px_var 1 (hv := Or.inl (by kernel_rfl))) (pg_cons' (px_ix (ix_3 (Room.up hr 1 (by decide))) o_ix (px_var 1 (hv := Or.inl (by kernel_rfl))) px_int plainIx) pg_nil'))))) (px_b1 cr_lens o_len g.f_len (px_var 1 (hv := Or.inl (by kernel_rfl)))) (by rfl))))
theorem sc_is_webbed : FnScope ["value"] ["value"] (defScope (top 17)) := ⟨rfl, rfl, rfl, by decide +kernel, rfl, by decide +kernel, by decide +kernel⟩
theorem ok_is_webbed (g : Gs mg) (C_is_tuple_of : Cal P w K mg base 1 "is_tuple_of" ["value", "many"] d_is_tuple_of) (C_is_place_number : Cal P w K mg base 3 "is_place_number" ["value"] d_is_place_number) (C_are_ties : Cal P w K mg base 4 "are_ties" ["number", "value"] d_are_ties) (C_hangs_by : Cal P w K mg base 4 "hangs_by" ["web", "lot"] d_hangs_by) (C_places_of : Cal P w K mg base 1 "places_of" ["web"] d_places_of) (F : FunD K "is_webbed" "is_webbed" (defArgs (top 17)) (defBody (top 17)) (defScope (top 17)) [] [] f fd) : FnOk P w K mg base CX0 5 f fd ["value"] (spP K d_is_webbed) :=
  def_ok F sc_is_webbed rfl rfl (by decide) fun cdv A outer s H E hr => (pb_cons (pp_if (PWt.t (pw_or' (pt_not' (pt_val' (px_cal C_is_tuple_of hr (by decide) (pg_cons' (px_var 0 (hv := Or.inl (by kernel_rfl))) (pg_cons' px_int pg_nil'))))) (pw_or' (pt_not' (pt_val' (px_cal C_is_place_number hr (by decide) (pg_cons' (px_ix (ix_3 (Room.up hr 1 (by decide))) o_ix (px_var 0 (hv := Or.inl (by kernel_rfl))) px_int plainIx) pg_nil')))) (pw_or1' (pt_not' (pt_val' (px_cal C_are_ties hr (by decide) (pg_cons' (px_ix (ix_3 (Room.up hr 1 (by decide))) o_ix (px_var 0 (hv := Or.inl (by kernel_rfl))) px_int plainIx) (pg_cons' (px_ix (ix_3 (Room.up hr 1 (by decide))) o_ix (px_var 0 (hv := Or.inl (by kernel_rfl))) px_int plainIx) pg_nil'))))))))) (pb_one (pp_ret px_bl)) pb_nil) (pb_one (pp_ret (px_cal C_hangs_by hr (by decide) (pg_cons' (px_var 0 (hv := Or.inl (by kernel_rfl))) (pg_cons' (px_t1 call_tuple_of o_tuple g.f_tuple (px_cal C_places_of hr (by decide) (pg_cons' (px_var 0 (hv := Or.inl (by kernel_rfl))) pg_nil'))) pg_nil'))))))
theorem sc_is_bare_by : FnScope ["web"] ["web"] (defScope (top 18)) := ⟨rfl, rfl, rfl, by decide +kernel, rfl, by decide +kernel, by decide +kernel⟩
theorem ok_is_bare_by (g : Gs mg) (C_ties_of : Cal P w K mg base 1 "ties_of" ["web"] d_ties_of) (C_place_count : Cal P w K mg base 1 "place_count" ["web"] d_place_count) (F : FunD K "is_bare_by" "is_bare_by" (defArgs (top 18)) (defBody (top 18)) (defScope (top 18)) [] [] f fd) : FnOk P w K mg base CX0 2 f fd ["web"] (spP K d_is_bare_by) :=
  def_ok F sc_is_bare_by rfl rfl (by decide) fun cdv A outer s H E hr => (pb_one (pp_ret (px_cmp (op_eqD (Room.up hr 64 (by decide))) o_eq (px_b1 cr_lens o_len g.f_len (px_cal C_ties_of hr (by decide) (pg_cons' (px_var 0 (hv := Or.inl (by kernel_rfl))) pg_nil'))) (px_op op_sub o_sub (px_cal C_place_count hr (by decide) (pg_cons' (px_var 0 (hv := Or.inl (by kernel_rfl))) pg_nil')) px_int) (by rfl))))
theorem sc_goes_of : FnScope ["web", "place"] ["web", "place"] (defScope (top 20)) := ⟨rfl, rfl, rfl, by decide +kernel, rfl, by decide +kernel, by decide +kernel⟩
theorem ok_goes_of (g : Gs mg) (C_neighbours_of : Cal P w K mg base 2 "neighbours_of" ["web", "place"] d_neighbours_of) (F : FunD K "goes_of" "goes_of" (defArgs (top 20)) (defBody (top 20)) (defScope (top 20)) [] [] f fd) : FnOk P w K mg base CX0 3 f fd ["web", "place"] (spP K d_goes_of) :=
  def_ok F sc_goes_of rfl rfl (by decide) fun cdv A outer s H E hr => (pb_one (pp_ret (px_b1 (cr_sorts rfl (Room.up hr 80 (by decide))) o_sorts g.f_sorted (px_lst (pl_cons (px_var 1 (hv := Or.inl (by kernel_rfl))) (pl_star (px_cal C_neighbours_of hr (by decide) (pg_cons' (px_var 0 (hv := Or.inl (by kernel_rfl))) (pg_cons' (px_var 1 (hv := Or.inl (by kernel_rfl))) pg_nil'))) pl_nil))))))
theorem sc_all_pairs : FnScope ["web", "place", "other"] ["web"] (defScope (top 21)) := ⟨rfl, rfl, rfl, by decide +kernel, rfl, by decide +kernel, by decide +kernel⟩
theorem ok_all_pairs (g : Gs mg) (C_places_of : Cal P w K mg base 1 "places_of" ["web"] d_places_of) (F : FunD K "all_pairs" "all_pairs" (defArgs (top 21)) (defBody (top 21)) (defScope (top 21)) [] [] f fd) : FnOk P w K mg base CX0 2 f fd ["web"] (spP K d_all_pairs) :=
  def_ok F sc_all_pairs rfl rfl (by decide) fun cdv A outer s H E hr => (pb_one (pp_ret (px_lc2 (own := [("place", 1), ("other", 2)]) (ts := [1]) (ts1 := [2]) (vs1 := [2]) rfl sc_all_pairs.nd (w_seq (px_cal C_places_of hr (by decide) (pg_cons' (px_var 0 (hv := Or.inr (Or.inl (by kernel_rfl)))) pg_nil'))) (blkOk_by (by kernel_rfl)) (by decide) (fun _ _ _ _ _ => (tg_name sc_all_pairs.nd (hx := Or.inl (by kernel_rfl)) (hf := Or.inr (by kernel_rfl)))) (fun _ _ _ _ _ => pts_no) (fun _ _ _ _ _ => (w_seq (px_cal C_places_of hr (by decide) (pg_cons' (px_var 0 (hv := Or.inr (Or.inl (by kernel_rfl)))) pg_nil')))) (fun _ _ _ _ _ => (tg_name sc_all_pairs.nd (hx := Or.inl (by kernel_rfl)) (hf := Or.inr (by kernel_rfl)))) (fun _ _ _ _ _ => pts_no) (fun _ _ _ _ _ => (px_tup (pl_cons (px_var 1 (hv := Or.inl (by kernel_rfl))) (pl_cons (px_var 2 (hv := Or.inl (by kernel_rfl))) pl_nil)))))))
theorem sc_pairs_behind : FnScope ["web", "place", "hare", "there"] ["web", "place", "hare"] (defScope (top 22)) := ⟨rfl, rfl, rfl, by decide +kernel, rfl, by decide +kernel, by decide +kernel⟩
theorem ok_pairs_behind (g : Gs mg) (C_goes_of : Cal P w K mg base 3 "goes_of" ["web", "place"] d_goes_of) (F : FunD K "pairs_behind" "pairs_behind" (defArgs (top 22)) (defBody (top 22)) (defScope (top 22)) [] [] f fd) : FnOk P w K mg base CX0 4 f fd ["web", "place", "hare"] (spP K d_pairs_behind) :=
  def_ok F sc_pairs_behind rfl rfl (by decide) fun cdv A outer s H E hr => (pb_one (pp_ret (px_lc (own := [("there", 3)]) (ts := [3]) rfl sc_pairs_behind.nd (w_seq (px_cal C_goes_of hr (by decide) (pg_cons' (px_var 0 (hv := Or.inl (by kernel_rfl))) (pg_cons' (px_var 2 (hv := Or.inl (by kernel_rfl))) pg_nil')))) (blkOk_by (by kernel_rfl)) (fun _ _ _ _ _ => (tg_name sc_pairs_behind.nd (hx := Or.inl (by kernel_rfl)) (hf := Or.inr (by kernel_rfl)))) (fun _ _ _ _ _ => (pts_1 (pt_cmp' (op_neD (Room.up hr 64 (by decide))) o_ne (px_var 3 (hv := Or.inl (by kernel_rfl))) (px_var 1 (hv := Or.inr (Or.inl (by kernel_rfl)))) (by rfl)))) (fun _ _ _ _ _ => (px_tup (pl_cons (px_var 1 (hv := Or.inr (Or.inl (by kernel_rfl)))) (pl_cons (px_var 3 (hv := Or.inl (by kernel_rfl))) pl_nil)))))))
theorem sc_does_close : FnScope ["web", "turns", "place", "hare", "pair"] ["web", "turns", "place", "hare"] (defScope (top 23)) := ⟨rfl, rfl, rfl, by decide +kernel, rfl, by decide +kernel, by decide +kernel⟩
theorem ok_does_close (g : Gs mg) (C_pairs_behind : Cal P w K mg base 4 "pairs_behind" ["web", "place", "hare"] d_pairs_behind) (F : FunD K "does_close" "does_close" (defArgs (top 23)) (defBody (top 23)) (defScope (top 23)) [] [] f fd) : FnOk P w K mg base CX0 5 f fd ["web", "turns", "place", "hare"] (spP K d_does_close) :=
  def_ok F sc_does_close rfl rfl (by decide) fun cdv A outer s H E hr => (pb_one (pp_ret (px_or (px_cmp (op_eqD (Room.up hr 64 (by decide))) o_eq (px_var 2 (hv := Or.inl (by kernel_rfl))) (px_var 3 (hv := Or.inl (by kernel_rfl))) (by rfl)) (px_one (px_b1 (cr_all rfl) o_all g.f_all (px_lc (own := [("pair", 4)]) (ts := [4]) rfl sc_does_close.nd (w_seq (px_cal C_pairs_behind hr (by decide) (pg_cons' (px_var 0 (hv := Or.inl (by kernel_rfl))) (pg_cons' (px_var 2 (hv := Or.inl (by kernel_rfl))) (pg_cons' (px_var 3 (hv := Or.inl (by kernel_rfl))) pg_nil'))))) (blkOk_by (by kernel_rfl)) (fun _ _ _ _ _ => (tg_name sc_does_close.nd (hx := Or.inl (by kernel_rfl)) (hf := Or.inr (by kernel_rfl)))) (fun _ _ _ _ _ => pts_no) (fun _ _ _ _ _ => (px_cmp (op_in3 (Room.up hr 65 (by decide))) o_in (px_var 4 (hv := Or.inl (by kernel_rfl))) (px_var 1 (hv := Or.inr (Or.inl (by kernel_rfl)))) (by rfl)))))))))
theorem sc_closing_moves : FnScope ["web", "turns", "pair", "place", "hare", "there"] ["web", "turns", "pair"] (defScope (top 24)) := ⟨rfl, rfl, rfl, by decide +kernel, rfl, by decide +kernel, by decide +kernel⟩
theorem ok_closing_moves (g : Gs mg) (C_goes_of : Cal P w K mg base 3 "goes_of" ["web", "place"] d_goes_of) (C_does_close : Cal P w K mg base 5 "does_close" ["web", "turns", "place", "hare"] d_does_close) (F : FunD K "closing_moves" "closing_moves" (defArgs (top 24)) (defBody (top 24)) (defScope (top 24)) [] [] f fd) : FnOk P w K mg base CX0 6 f fd ["web", "turns", "pair"] (spP K d_closing_moves) :=
  def_ok F sc_closing_moves rfl rfl (by decide) fun cdv A outer s H E hr => (pb_cons (pp_asg (px_var 2 (hv := Or.inl (by kernel_rfl))) (tg_tup rfl (tgs_cons (tg_name sc_closing_moves.nd (hx := Or.inl (by kernel_rfl)) (hf := Or.inr (by kernel_rfl))) (tgs_cons (tg_name sc_closing_moves.nd (hx := Or.inr (by kernel_rfl)) (hf := Or.inl (by kernel_rfl))) tgs_nil)) (tgl_cons (tgl_cons tgl_nil)))) (pb_one (pp_ret (px_lc (own := [("there", 5)]) (ts := [5]) rfl sc_closing_moves.nd (w_seq (px_cal C_goes_of hr (by decide) (pg_cons' (px_var 0 (hv := Or.inr (Or.inl (by kernel_rfl)))) (pg_cons' (px_var 3 (hv := Or.inl (by kernel_rfl))) pg_nil')))) (blkOk_by (by kernel_rfl)) (fun _ _ _ _ _ => (tg_name sc_closing_moves.nd (hx := Or.inl (by kernel_rfl)) (hf := Or.inr (by kernel_rfl)))) (fun _ _ _ _ _ => (pts_1 (pt_val' (px_cal C_does_close hr (by decide) (pg_cons' (px_var 0 (hv := Or.inr (Or.inl (by kernel_rfl)))) (pg_cons' (px_var 1 (hv := Or.inr (Or.inl (by kernel_rfl)))) (pg_cons' (px_var 5 (hv := Or.inl (by kernel_rfl))) (pg_cons' (px_var 4 (hv := Or.inr (Or.inl (by kernel_rfl)))) pg_nil')))))))) (fun _ _ _ _ _ => (px_var 5 (hv := Or.inl (by kernel_rfl))))))))
theorem sc_pairs_closed : FnScope ["web", "turns", "pair"] ["web", "turns"] (defScope (top 25)) := ⟨rfl, rfl, rfl, by decide +kernel, rfl, by decide +kernel, by decide +kernel⟩
theorem ok_pairs_closed (g : Gs mg) (C_all_pairs : Cal P w K mg base 2 "all_pairs" ["web"] d_all_pairs) (C_closing_moves : Cal P w K mg base 6 "closing_moves" ["web", "turns", "pair"] d_closing_moves) (F : FunD K "pairs_closed" "pairs_closed" (defArgs (top 25)) (defBody (top 25)) (defScope (top 25)) [] [] f fd) : FnOk P w K mg base CX0 7 f fd ["web", "turns"] (spP K d_pairs_closed) :=
  def_ok F sc_pairs_closed rfl rfl (by decide) fun cdv A outer s H E hr => (pb_one (pp_ret (px_lc (own := [("pair", 2)]) (ts := [2]) rfl sc_pairs_closed.nd (w_seq (px_cal C_all_pairs hr (by decide) (pg_cons' (px_var 0 (hv := Or.inr (Or.inl (by kernel_rfl)))) pg_nil'))) (blkOk_by (by kernel_rfl)) (fun _ _ _ _ _ => (tg_name sc_pairs_closed.nd (hx := Or.inl (by kernel_rfl)) (hf := Or.inr (by kernel_rfl)))) (fun _ _ _ _ _ => (pts_1 (PWt.t (pw_and' (pt_cmp' (op_nin3 (Room.up hr 65 (by decide))) o_nin (px_var 2 (hv := Or.inl (by kernel_rfl))) (px_var 1 (hv := Or.inr (Or.inl (by kernel_rfl)))) (by rfl)) (pw_and1' (pt_cmp' (op_neD (Room.up hr 64 (by decide))) o_ne (px_cal C_closing_moves hr (by decide) (pg_cons' (px_var 0 (hv := Or.inr (Or.inl (by kernel_rfl)))) (pg_cons' (px_var 1 (hv := Or.inr (Or.inl (by kernel_rfl)))) (pg_cons' (px_var 2 (hv := Or.inl (by kernel_rfl))) pg_nil')))) (px_lst pl_nil) (by rfl))))))) (fun _ _ _ _ _ => (px_var 2 (hv := Or.inl (by kernel_rfl)))))))
theorem sc_turns_of : FnScope ["web", "found", "number", "_", "fresh", "place", "pair"] ["web"] (defScope (top 26)) := ⟨rfl, rfl, rfl, by decide +kernel, rfl, by decide +kernel, by decide +kernel⟩
theorem ok_turns_of (g : Gs mg) (C_places_of : Cal P w K mg base 1 "places_of" ["web"] d_places_of) (C_all_pairs : Cal P w K mg base 2 "all_pairs" ["web"] d_all_pairs) (C_pairs_closed : Cal P w K mg base 7 "pairs_closed" ["web", "turns"] d_pairs_closed) (F : FunD K "turns_of" "turns_of" (defArgs (top 26)) (defBody (top 26)) (defScope (top 26)) [] [] f fd) : FnOk P w K mg base CX0 8 f fd ["web"] (spP K d_turns_of) :=
  def_ok F sc_turns_of rfl rfl (by decide) fun cdv A outer s H E hr => (pb_cons (pp_setDc (own := [("place", 5)]) (ts := [5]) true (Room.up hr 1 (by decide)) rfl sc_turns_of.nd (w_seq (px_cal C_places_of hr (by decide) (pg_cons' (px_var 0 (hv := Or.inl (by kernel_rfl))) pg_nil'))) (blkOk_by (by kernel_rfl)) (fun _ _ _ _ _ => (tg_name sc_turns_of.nd (hx := Or.inl (by kernel_rfl)) (hf := Or.inr (by kernel_rfl)))) (fun _ _ _ _ _ => pts_no) (fun _ _ _ _ _ => (px_tup (pl_cons (px_var 5 (hv := Or.inl (by kernel_rfl))) (pl_cons (px_var 5 (hv := Or.inl (by kernel_rfl))) pl_nil)))) (fun _ _ _ _ _ => px_int)) (pb_cons (pp_for PassesOwn.never rfl (w_enum g.f_enumerate (px_cal C_all_pairs hr (by decide) (pg_cons' (px_var 0 (hv := Or.inl (by kernel_rfl))) pg_nil')) px_int) (tg_tup rfl (tgs_cons (tg_name sc_turns_of.nd (hx := Or.inr (by kernel_rfl)) (hf := Or.inl (by kernel_rfl))) (tgs_cons (tg_name sc_turns_of.nd (hx := Or.inl (by kernel_rfl)) (hf := Or.inr (by kernel_rfl))) tgs_nil)) (tgl_cons (tgl_cons tgl_nil))) (pb_cons (pp_set sc_turns_of.nd (px_cal C_pairs_closed hr (by decide) (pg_cons' (px_var 0 (hv := Or.inl (by kernel_rfl))) (pg_cons' (px_var 1 (hv := Or.inl (by kernel_rfl))) pg_nil'))) (hx := Or.inl (by kernel_rfl)) (hf := Or.inr (by kernel_rfl))) (pb_cons (pp_if (pt_cmp' (op_eqD (Room.up hr 64 (by decide))) o_eq (px_var 4 (hv := Or.inl (by kernel_rfl))) (px_lst pl_nil) (by rfl)) (pb_one (pp_ret (px_var 1 (hv := Or.inl (by kernel_rfl))))) pb_nil) (pb_one (pp_update 1 rfl (Room.up hr 2 (by decide)) (px_dc (own := [("pair", 6)]) (ts := [6]) true (Room.up hr 1 (by decide)) rfl sc_turns_of.nd (w_seq (px_var 4 (hv := Or.inl (by kernel_rfl)))) (blkOk_by (by kernel_rfl)) (fun _ _ _ _ _ => (tg_name sc_turns_of.nd (hx := Or.inl (by kernel_rfl)) (hf := Or.inr (by kernel_rfl)))) (fun _ _ _ _ _ => pts_no) (fun _ _ _ _ _ => (px_var 6 (hv := Or.inl (by kernel_rfl)))) (fun _ _ _ _ _ => (px_var 2 (hv := Or.inr (Or.inl (by kernel_rfl)))))) (hv := Or.inl (by kernel_rfl))))))) (pb_one (pp_ret (px_var 1 (hv := Or.inl (by kernel_rfl)))))))
theorem sc_free_of : FnScope ["web", "turns", "pair"] ["web"] (defScope (top 27)) := ⟨rfl, rfl, rfl, by decide +kernel, rfl, by decide +kernel, by decide +kernel⟩
theorem ok_free_of (g : Gs mg) (C_turns_of : Cal P w K mg base 8 "turns_of" ["web"] d_turns_of) (C_all_pairs : Cal P w K mg base 2 "all_pairs" ["web"] d_all_pairs) (F : FunD K "free_of" "free_of" (defArgs (top 27)) (defBody (top 27)) (defScope (top 27)) [] [] f fd) : FnOk P w K mg base CX0 9 f fd ["web"] (spP K d_free_of) :=
  def_ok F sc_free_of rfl rfl (by decide) fun cdv A outer s H E hr => (pb_cons (pp_set sc_free_of.nd (px_cal C_turns_of hr (by decide) (pg_cons' (px_var 0 (hv := Or.inl (by kernel_rfl))) pg_nil')) (hx := Or.inr (by kernel_rfl)) (hf := Or.inl (by kernel_rfl))) (pb_one (pp_ret (px_lc (own := [("pair", 2)]) (ts := [2]) rfl sc_free_of.nd (w_seq (px_cal C_all_pairs hr (by decide) (pg_cons' (px_var 0 (hv := Or.inl (by kernel_rfl))) pg_nil'))) (blkOk_by (by kernel_rfl)) (fun _ _ _ _ _ => (tg_name sc_free_of.nd (hx := Or.inl (by kernel_rfl)) (hf := Or.inr (by kernel_rfl)))) (fun _ _ _ _ _ => (pts_1 (pt_cmp' (op_nin3 (Room.up hr 65 (by decide))) o_nin (px_var 2 (hv := Or.inl (by kernel_rfl))) (px_var 1 (hv := Or.inr (Or.inl (by kernel_rfl)))) (by rfl)))) (fun _ _ _ _ _ => (px_var 2 (hv := Or.inl (by kernel_rfl))))))))
theorem sc_first_move_by : FnScope ["web", "pair", "turns", "fewer", "other", "number"] ["web", "pair"] (defScope (top 28)) := ⟨rfl, rfl, rfl, by decide +kernel, rfl, by decide +kernel, by decide +kernel⟩
theorem ok_first_move_by (g : Gs mg) (C_turns_of : Cal P w K mg base 8 "turns_of" ["web"] d_turns_of) (C_closing_moves : Cal P w K mg base 6 "closing_moves" ["web", "turns", "pair"] d_closing_moves) (F : FunD K "first_move_by" "first_move_by" (defArgs (top 28)) (defBody (top 28)) (defScope (top 28)) [] [] f fd) : FnOk P w K mg base CX0 9 f fd ["web", "pair"] (spP K d_first_move_by) :=
  def_ok F sc_first_move_by rfl rfl (by decide) fun cdv A outer s H E hr => (pb_cons (pp_set sc_first_move_by.nd (px_cal C_turns_of hr (by decide) (pg_cons' (px_var 0 (hv := Or.inl (by kernel_rfl))) pg_nil')) (hx := Or.inr (by kernel_rfl)) (hf := Or.inl (by kernel_rfl))) (pb_cons (pp_if (pt_cmp' (op_eqD (Room.up hr 64 (by decide))) o_eq (px_get2 (Room.up hr 1 (by decide)) (px_var 2 (hv := Or.inr (Or.inl (by kernel_rfl)))) (px_var 1 (hv := Or.inr (Or.inl (by kernel_rfl)))) px_int) px_int (by rfl)) (pb_one (pp_ret px_non)) pb_nil) (pb_cons (pp_setDcI (own := [("other", 4), ("number", 5)]) (ts := [4, 5]) true 2 (Room.up hr 1 (by decide)) rfl sc_first_move_by.nd (blkOk_by (by kernel_rfl)) (fun _ _ _ _ _ => (tg_tup rfl (tgs_cons (tg_name sc_first_move_by.nd (hx := Or.inl (by kernel_rfl)) (hf := Or.inr (by kernel_rfl))) (tgs_cons (tg_name sc_first_move_by.nd (hx := Or.inl (by kernel_rfl)) (hf := Or.inr (by kernel_rfl))) tgs_nil)) (tgl_cons (tgl_cons tgl_nil)))) (fun _ _ _ _ _ => (pts_1 (pt_cmp' (op_lt2 (Room.up hr 64 (by decide))) o_lt (px_var 5 (hv := Or.inl (by kernel_rfl))) (px_ix (ix_3 (Room.up hr 1 (by decide))) o_ix (px_var 2 (hv := Or.inr (Or.inl (by kernel_rfl)))) (px_var 1 (hv := Or.inr (Or.inl (by kernel_rfl)))) plainIx) (by rfl)))) (fun _ _ _ _ _ => (px_var 4 (hv := Or.inl (by kernel_rfl)))) (fun _ _ _ _ _ => (px_var 5 (hv := Or.inl (by kernel_rfl)))) (hv := Or.inr (Or.inl (by kernel_rfl)))) (pb_one (pp_ret (px_ix (ix_3 (Room.up hr 1 (by decide))) o_ix (px_cal C_closing_moves hr (by decide) (pg_cons' (px_var 0 (hv := Or.inl (by kernel_rfl))) (pg_cons' (px_var 3 (hv := Or.inl (by kernel_rfl))) (pg_cons' (px_var 1 (hv := Or.inr (Or.inl (by kernel_rfl)))) pg_nil')))) px_int plainIx))))))
theorem sc_check_web : FnScope ["web"] ["web"] (defScope (top 34)) := ⟨rfl, rfl, rfl, by decide +kernel, rfl, by decide +kernel, by decide +kernel⟩
theorem ok_check_web (g : Gs mg) (C_is_webbed : Cal P w K mg base 5 "is_webbed" ["value"] d_is_webbed) (F : FunD K "check_web" "check_web" (defArgs (top 34)) (defBody (top 34)) (defScope (top 34)) [] [] f fd) : FnOk P w K mg base CX0 6 f fd ["web"] (spP K d_check_web) :=
  def_ok F sc_check_web rfl rfl (by decide) fun cdv A outer s H E hr => (pb_one (pp_if (pt_not' (pt_val' (px_cal C_is_webbed hr (by decide) (pg_cons' (px_var 0 (hv := Or.inl (by kernel_rfl))) pg_nil')))) (pb_one pp_never) pb_nil))
theorem sc_check_place : FnScope ["web", "place"] ["web", "place"] (defScope (top 35)) := ⟨rfl, rfl, rfl, by decide +kernel, rfl, by decide +kernel, by decide +kernel⟩
theorem ok_check_place (g : Gs mg) (C_is_place_of : Cal P w K mg base 3 "is_place_of" ["web", "value"] d_is_place_of) (F : FunD K "check_place" "check_place" (defArgs (top 35)) (defBody (top 35)) (defScope (top 35)) [] [] f fd) : FnOk P w K mg base CX0 4 f fd ["web", "place"] (spP K d_check_place) :=
  def_ok F sc_check_place rfl rfl (by decide) fun cdv A outer s H E hr => (pb_one (pp_if (pt_not' (pt_val' (px_cal C_is_place_of hr (by decide) (pg_cons' (px_var 0 (hv := Or.inl (by kernel_rfl))) (pg_cons' (px_var 1 (hv := Or.inl (by kernel_rfl))) pg_nil'))))) (pb_one pp_never) pb_nil))
theorem sc_check_web_place : FnScope ["web", "place"] ["web", "place"] (defScope (top 36)) := ⟨rfl, rfl, rfl, by decide +kernel, rfl, by decide +kernel, by decide +kernel⟩
theorem ok_check_web_place (g : Gs mg) (C_check_web : Cal P w K mg base 6 "check_web" ["web"] d_check_web) (C_check_place : Cal P w K mg base 4 "check_place" ["web", "place"] d_check_place) (F : FunD K "check_web_place" "check_web_place" (defArgs (top 36)) (defBody (top 36)) (defScope (top 36)) [] [] f fd) : FnOk P w K mg base CX0 7 f fd ["web", "place"] (spP K d_check_web_place) :=
  def_ok F sc_check_web_place rfl rfl (by decide) fun cdv A outer s H E hr => (pb_cons (pp_expr (px_cal C_check_web hr (by decide) (pg_cons' (px_var 0 (hv := Or.inl (by kernel_rfl))) pg_nil'))) (pb_one (pp_expr (px_cal C_check_place hr (by decide) (pg_cons' (px_var 0 (hv := Or.inl (by kernel_rfl))) (pg_cons' (px_var 1 (hv := Or.inl (by kernel_rfl))) pg_nil'))))))
theorem sc_check_two_places : FnScope ["web", "place", "other_place"] ["web", "place", "other_place"] (defScope (top 37)) := ⟨rfl, rfl, rfl, by decide +kernel, rfl, by decide +kernel, by decide +kernel⟩
theorem ok_check_two_places (g : Gs mg) (C_check_web_place : Cal P w K mg base 7 "check_web_place" ["web", "place"] d_check_web_place) (C_check_place : Cal P w K mg base 4 "check_place" ["web", "place"] d_check_place) (F : FunD K "check_two_places" "check_two_places" (defArgs (top 37)) (defBody (top 37)) (defScope (top 37)) [] [] f fd) : FnOk P w K mg base CX0 8 f fd ["web", "place", "other_place"] (spP K d_check_two_places) :=
  def_ok F sc_check_two_places rfl rfl (by decide) fun cdv A outer s H E hr => (pb_cons (pp_expr (px_cal C_check_web_place hr (by decide) (pg_cons' (px_var 0 (hv := Or.inl (by kernel_rfl))) (pg_cons' (px_var 1 (hv := Or.inl (by kernel_rfl))) pg_nil')))) (pb_one (pp_expr (px_cal C_check_place hr (by decide) (pg_cons' (px_var 0 (hv := Or.inl (by kernel_rfl))) (pg_cons' (px_var 2 (hv := Or.inl (by kernel_rfl))) pg_nil'))))))
theorem sc_chase_turns : FnScope ["web", "place", "other_place"] ["web", "place", "other_place"] (defScope (top 39)) := ⟨rfl, rfl, rfl, by decide +kernel, rfl, by decide +kernel, by decide +kernel⟩
theorem ok_chase_turns (g : Gs mg) (C_check_two_places : Cal P w K mg base 8 "check_two_places" ["web", "place", "other_place"] d_check_two_places) (C_turns_of : Cal P w K mg base 8 "turns_of" ["web"] d_turns_of) (F : FunD K "chase_turns" "chase_turns" (defArgs (top 39)) (defBody (top 39)) (defScope (top 39)) [] [] f fd) : FnOk P w K mg base CX0 9 f fd ["web", "place", "other_place"] (spP K d_chase_turns) :=
  def_ok F sc_chase_turns rfl rfl (by decide) fun cdv A outer s H E hr => (pb_cons (pp_expr (px_cal C_check_two_places hr (by decide) (pg_cons' (px_var 0 (hv := Or.inl (by kernel_rfl))) (pg_cons' (px_var 1 (hv := Or.inl (by kernel_rfl))) (pg_cons' (px_var 2 (hv := Or.inl (by kernel_rfl))) pg_nil'))))) (pb_one (pp_ret (px_get1 (Room.up hr 1 (by decide)) (px_cal C_turns_of hr (by decide) (pg_cons' (px_var 0 (hv := Or.inl (by kernel_rfl))) pg_nil')) (px_tup (pl_cons (px_var 1 (hv := Or.inl (by kernel_rfl))) (pl_cons (px_var 2 (hv := Or.inl (by kernel_rfl))) pl_nil)))))))
theorem sc_can_chase : FnScope ["web"] ["web"] (defScope (top 40)) := ⟨rfl, rfl, rfl, by decide +kernel, rfl, by decide +kernel, by decide +kernel⟩
theorem ok_can_chase (g : Gs mg) (C_check_web : Cal P w K mg base 6 "check_web" ["web"] d_check_web) (C_free_of : Cal P w K mg base 9 "free_of" ["web"] d_free_of) (F : FunD K "can_chase" "can_chase" (defArgs (top 40)) (defBody (top 40)) (defScope (top 40)) [] [] f fd) : FnOk P w K mg base CX0 10 f fd ["web"] (spP K d_can_chase) :=
  def_ok F sc_can_chase rfl rfl (by decide) fun cdv A outer s H E hr => (pb_cons (pp_expr (px_cal C_check_web hr (by decide) (pg_cons' (px_var 0 (hv := Or.inl (by kernel_rfl))) pg_nil'))) (pb_one (pp_ret (px_cmp (op_eqD (Room.up hr 64 (by decide))) o_eq (px_cal C_free_of hr (by decide) (pg_cons' (px_var 0 (hv := Or.inl (by kernel_rfl))) pg_nil')) (px_lst pl_nil) (by rfl)))))
theorem sc_free_pairs : FnScope ["web"] ["web"] (defScope (top 41)) := ⟨rfl, rfl, rfl, by decide +kernel, rfl, by decide +kernel, by decide +kernel⟩
theorem ok_free_pairs (g : Gs mg) (C_check_web : Cal P w K mg base 6 "check_web" ["web"] d_check_web) (C_free_of : Cal P w K mg base 9 "free_of" ["web"] d_free_of) (F : FunD K "free_pairs" "free_pairs" (defArgs (top 41)) (defBody (top 41)) (defScope (top 41)) [] [] f fd) : FnOk P w K mg base CX0 10 f fd ["web"] (spP K d_free_pairs) :=
  def_ok F sc_free_pairs rfl rfl (by decide) fun cdv A outer s H E hr => (pb_cons (pp_expr (px_cal C_check_web hr (by decide) (pg_cons' (px_var 0 (hv := Or.inl (by kernel_rfl))) pg_nil'))) (pb_one (pp_ret (px_t1 call_tuple_of o_tuple g.f_tuple (px_cal C_free_of hr (by decide) (pg_cons' (px_var 0 (hv := Or.inl (by kernel_rfl))) pg_nil'))))))
theorem sc_hunter_move : FnScope ["web", "place", "other_place"] ["web", "place", "other_place"] (defScope (top 42)) := ⟨rfl, rfl, rfl, by decide +kernel, rfl, by decide +kernel, by decide +kernel⟩
theorem ok_hunter_move (g : Gs mg) (C_check_two_places : Cal P w K mg base 8 "check_two_places" ["web", "place", "other_place"] d_check_two_places) (C_first_move_by : Cal P w K mg base 9 "first_move_by" ["web", "pair"] d_first_move_by) (F : FunD K "hunter_move" "hunter_move" (defArgs (top 42)) (defBody (top 42)) (defScope (top 42)) [] [] f fd) : FnOk P w K mg base CX0 10 f fd ["web", "place", "other_place"] (spP K d_hunter_move) :=
  def_ok F sc_hunter_move rfl rfl (by decide) fun cdv A outer s H E hr => (pb_cons (pp_expr (px_cal C_check_two_places hr (by decide) (pg_cons' (px_var 0 (hv := Or.inl (by kernel_rfl))) (pg_cons' (px_var 1 (hv := Or.inl (by kernel_rfl))) (pg_cons' (px_var 2 (hv := Or.inl (by kernel_rfl))) pg_nil'))))) (pb_one (pp_ret (px_cal C_first_move_by hr (by decide) (pg_cons' (px_var 0 (hv := Or.inl (by kernel_rfl))) (pg_cons' (px_tup (pl_cons (px_var 1 (hv := Or.inl (by kernel_rfl))) (pl_cons (px_var 2 (hv := Or.inl (by kernel_rfl))) pl_nil))) pg_nil'))))))
theorem sc_beside_within : FnScope ["web", "lot", "place", "other"] ["web", "lot", "place"] (defScope (top 44)) := ⟨rfl, rfl, rfl, by decide +kernel, rfl, by decide +kernel, by decide +kernel⟩
theorem ok_beside_within (g : Gs mg) (C_goes_of : Cal P w K mg base 3 "goes_of" ["web", "place"] d_goes_of) (F : FunD K "beside_within" "beside_within" (defArgs (top 44)) (defBody (top 44)) (defScope (top 44)) [] [] f fd) : FnOk P w K mg base CX0 4 f fd ["web", "lot", "place"] (spP K d_beside_within) :=
  def_ok F sc_beside_within rfl rfl (by decide) fun cdv A outer s H E hr => (pb_one (pp_ret (px_lc (own := [("other", 3)]) (ts := [3]) rfl sc_beside_within.nd (w_seq (px_cal C_goes_of hr (by decide) (pg_cons' (px_var 0 (hv := Or.inl (by kernel_rfl))) (pg_cons' (px_var 2 (hv := Or.inl (by kernel_rfl))) pg_nil')))) (blkOk_by (by kernel_rfl)) (fun _ _ _ _ _ => (tg_name sc_beside_within.nd (hx := Or.inl (by kernel_rfl)) (hf := Or.inr (by kernel_rfl)))) (fun _ _ _ _ _ => (pts_1 (pt_cmp' (op_in3 (Room.up hr 65 (by decide))) o_in (px_var 3 (hv := Or.inl (by kernel_rfl))) (px_var 1 (hv := Or.inr (Or.inl (by kernel_rfl)))) (by rfl)))) (fun _ _ _ _ _ => (px_var 3 (hv := Or.inl (by kernel_rfl)))))))
theorem sc_can_fold_by : FnScope ["web", "lot", "place", "onto", "other"] ["web", "lot", "place", "onto"] (defScope (top 45)) := ⟨rfl, rfl, rfl, by decide +kernel, rfl, by decide +kernel, by decide +kernel⟩
theorem ok_can_fold_by (g : Gs mg) (C_beside_within : Cal P w K mg base 4 "beside_within" ["web", "lot", "place"] d_beside_within) (C_goes_of : Cal P w K mg base 3 "goes_of" ["web", "place"] d_goes_of) (F : FunD K "can_fold_by" "can_fold_by" (defArgs (top 45)) (defBody (top 45)) (defScope (top 45)) [] [] f fd) : FnOk P w K mg base CX0 5 f fd ["web", "lot", "place", "onto"] (spP K d_can_fold_by) :=
  def_ok F sc_can_fold_by rfl rfl (by decide) fun cdv A outer s H E hr => (pb_one (pp_ret (px_and (px_cmp (op_neD (Room.up hr 64 (by decide))) o_ne (px_var 2 (hv := Or.inl (by kernel_rfl))) (px_var 3 (hv := Or.inr (Or.inl (by kernel_rfl)))) (by rfl)) (px_one (px_b1 (cr_all rfl) o_all g.f_all (px_lc (own := [("other", 4)]) (ts := [4]) rfl sc_can_fold_by.nd (w_seq (px_cal C_beside_within hr (by decide) (pg_cons' (px_var 0 (hv := Or.inr (Or.inl (by kernel_rfl)))) (pg_cons' (px_var 1 (hv := Or.inl (by kernel_rfl))) (pg_cons' (px_var 2 (hv := Or.inl (by kernel_rfl))) pg_nil'))))) (blkOk_by (by kernel_rfl)) (fun _ _ _ _ _ => (tg_name sc_can_fold_by.nd (hx := Or.inl (by kernel_rfl)) (hf := Or.inr (by kernel_rfl)))) (fun _ _ _ _ _ => pts_no) (fun _ _ _ _ _ => (px_cmp (op_in3 (Room.up hr 65 (by decide))) o_in (px_var 4 (hv := Or.inl (by kernel_rfl))) (px_cal C_goes_of hr (by decide) (pg_cons' (px_var 0 (hv := Or.inr (Or.inl (by kernel_rfl)))) (pg_cons' (px_var 3 (hv := Or.inr (Or.inl (by kernel_rfl)))) pg_nil'))) (by rfl)))))))))
theorem sc_folds_by : FnScope ["web", "lot", "place", "onto"] ["web", "lot"] (defScope (top 46)) := ⟨rfl, rfl, rfl, by decide +kernel, rfl, by decide +kernel, by decide +kernel⟩
theorem ok_folds_by (g : Gs mg) (C_can_fold_by : Cal P w K mg base 5 "can_fold_by" ["web", "lot", "place", "onto"] d_can_fold_by) (F : FunD K "folds_by" "folds_by" (defArgs (top 46)) (defBody (top 46)) (defScope (top 46)) [] [] f fd) : FnOk P w K mg base CX0 6 f fd ["web", "lot"] (spP K d_folds_by) :=
  def_ok F sc_folds_by rfl rfl (by decide) fun cdv A outer s H E hr => (pb_one (pp_ret (px_lc2 (own := [("place", 2), ("onto", 3)]) (ts := [2]) (ts1 := [3]) (vs1 := [3]) rfl sc_folds_by.nd (w_seq (px_var 1 (hv := Or.inr (Or.inl (by kernel_rfl))))) (blkOk_by (by kernel_rfl)) (by decide) (fun _ _ _ _ _ => (tg_name sc_folds_by.nd (hx := Or.inl (by kernel_rfl)) (hf := Or.inr (by kernel_rfl)))) (fun _ _ _ _ _ => pts_no) (fun _ _ _ _ _ => (w_seq (px_var 1 (hv := Or.inr (Or.inl (by kernel_rfl)))))) (fun _ _ _ _ _ => (tg_name sc_folds_by.nd (hx := Or.inl (by kernel_rfl)) (hf := Or.inr (by kernel_rfl)))) (fun _ _ _ _ _ => (pts_1 (pt_val' (px_cal C_can_fold_by hr (by decide) (pg_cons' (px_var 0 (hv := Or.inr (Or.inl (by kernel_rfl)))) (pg_cons' (px_var 1 (hv := Or.inr (Or.inl (by kernel_rfl)))) (pg_cons' (px_var 2 (hv := Or.inl (by kernel_rfl))) (pg_cons' (px_var 3 (hv := Or.inl (by kernel_rfl))) pg_nil')))))))) (fun _ _ _ _ _ => (px_tup (pl_cons (px_var 2 (hv := Or.inl (by kernel_rfl))) (pl_cons (px_var 3 (hv := Or.inl (by kernel_rfl))) pl_nil)))))))
theorem sc_lot_without : FnScope ["lot", "place", "other"] ["lot", "place"] (defScope (top 47)) := ⟨rfl, rfl, rfl, by decide +kernel, rfl, by decide +kernel, by decide +kernel⟩
theorem ok_lot_without (g : Gs mg)  (F : FunD K "lot_without" "lot_without" (defArgs (top 47)) (defBody (top 47)) (defScope (top 47)) [] [] f fd) : FnOk P w K mg base CX0 1 f fd ["lot", "place"] (spP K d_lot_without) :=
  def_ok F sc_lot_without rfl rfl (by decide) fun cdv A outer s H E hr => (pb_one (pp_ret (px_t1 call_tuple_of o_tuple g.f_tuple (px_lc (own := [("other", 2)]) (ts := [2]) rfl sc_lot_without.nd (w_seq (px_var 0 (hv := Or.inl (by kernel_rfl)))) (blkOk_by (by kernel_rfl)) (fun _ _ _ _ _ => (tg_name sc_lot_without.nd (hx := Or.inl (by kernel_rfl)) (hf := Or.inr (by kernel_rfl)))) (fun _ _ _ _ _ => (pts_1 (pt_cmp' (op_neD (Room.up hr 64 (by decide))) o_ne (px_var 2 (hv := Or.inl (by kernel_rfl))) (px_var 1 (hv := Or.inr (Or.inl (by kernel_rfl)))) (by rfl)))) (fun _ _ _ _ _ => (px_var 2 (hv := Or.inl (by kernel_rfl))))))))
theorem sc_folded_of : FnScope ["web", "_", "found", "lot", "pairs"] ["web"] (defScope (top 48)) := ⟨rfl, rfl, rfl, by decide +kernel, rfl, by decide +kernel, by decide +kernel⟩
theorem ok_folded_of (g : Gs mg) (C_places_of : Cal P w K mg base 1 "places_of" ["web"] d_places_of) (C_folds_by : Cal P w K mg base 6 "folds_by" ["web", "lot"] d_folds_by) (C_lot_without : Cal P w K mg base 1 "lot_without" ["lot", "place"] d_lot_without) (F : FunD K "folded_of" "folded_of" (defArgs (top 48)) (defBody (top 48)) (defScope (top 48)) [] [] f fd) : FnOk P w K mg base CX0 7 f fd ["web"] (spP K d_folded_of) :=
  def_ok F sc_folded_of rfl rfl (by decide) fun cdv A outer s H E hr => (pb_cons (pp_par rfl sc_folded_of.nd (px_lst pl_nil) (px_t1 call_tuple_of o_tuple g.f_tuple (px_cal C_places_of hr (by decide) (pg_cons' (px_var 0 (hv := Or.inl (by kernel_rfl))) pg_nil')))) (pb_cons (pp_for PassesOwn.never rfl (w_seq (px_cal C_places_of hr (by decide) (pg_cons' (px_var 0 (hv := Or.inl (by kernel_rfl))) pg_nil'))) (tg_name sc_folded_of.nd (hx := Or.inl (by kernel_rfl)) (hf := Or.inr (by kernel_rfl))) (pb_cons (pp_set sc_folded_of.nd (px_cal C_folds_by hr (by decide) (pg_cons' (px_var 0 (hv := Or.inl (by kernel_rfl))) (pg_cons' (px_var 3 (hv := Or.inl (by kernel_rfl))) pg_nil'))) (hx := Or.inl (by kernel_rfl)) (hf := Or.inr (by kernel_rfl))) (pb_one (pp_if (pt_cmp' (op_neD (Room.up hr 64 (by decide))) o_ne (px_var 4 (hv := Or.inl (by kernel_rfl))) (px_lst pl_nil) (by rfl)) (pb_cons (pp_append 2 (px_ix (ix_3 (Room.up hr 1 (by decide))) o_ix (px_var 4 (hv := Or.inl (by kernel_rfl))) px_int plainIx) (hv := Or.inl (by kernel_rfl))) (pb_one (pp_set sc_folded_of.nd (px_cal C_lot_without hr (by decide) (pg_cons' (px_var 3 (hv := Or.inl (by kernel_rfl))) (pg_cons' (px_ix (ix_3 (Room.up hr 1 (by decide))) o_ix (px_ix (ix_3 (Room.up hr 1 (by decide))) o_ix (px_var 4 (hv := Or.inl (by kernel_rfl))) px_int plainIx) px_int plainIx) pg_nil'))) (hx := Or.inl (by kernel_rfl)) (hf := Or.inr (by kernel_rfl))))) pb_nil)))) (pb_one (pp_fixM 2 (pp_fixM 3 (pp_ret (px_tup (pl_cons (px_var 2 (hv := Or.inl (by kernel_rfl))) (pl_cons (px_var 3 (hv := Or.inl (by kernel_rfl))) pl_nil)))))))))
theorem sc_fold_row : FnScope ["web"] ["web"] (defScope (top 50)) := ⟨rfl, rfl, rfl, by decide +kernel, rfl, by decide +kernel, by decide +kernel⟩
theorem ok_fold_row (g : Gs mg) (C_check_web : Cal P w K mg base 6 "check_web" ["web"] d_check_web) (C_folded_of : Cal P w K mg base 7 "folded_of" ["web"] d_folded_of) (F : FunD K "fold_row" "fold_row" (defArgs (top 50)) (defBody (top 50)) (defScope (top 50)) [] [] f fd) : FnOk P w K mg base CX0 8 f fd ["web"] (spP K d_fold_row) :=
  def_ok F sc_fold_row rfl rfl (by decide) fun cdv A outer s H E hr => (pb_cons (pp_expr (px_cal C_check_web hr (by decide) (pg_cons' (px_var 0 (hv := Or.inl (by kernel_rfl))) pg_nil'))) (pb_one (pp_ret (px_t1 call_tuple_of o_tuple g.f_tuple (px_ix (ix_3 (Room.up hr 1 (by decide))) o_ix (px_cal C_folded_of hr (by decide) (pg_cons' (px_var 0 (hv := Or.inl (by kernel_rfl))) pg_nil')) px_int plainIx)))))
theorem sc_neighbours : FnScope ["web", "place"] ["web", "place"] (defScope (top 52)) := ⟨rfl, rfl, rfl, by decide +kernel, rfl, by decide +kernel, by decide +kernel⟩
theorem ok_neighbours (g : Gs mg) (C_check_web_place : Cal P w K mg base 7 "check_web_place" ["web", "place"] d_check_web_place) (C_neighbours_of : Cal P w K mg base 2 "neighbours_of" ["web", "place"] d_neighbours_of) (F : FunD K "neighbours" "neighbours" (defArgs (top 52)) (defBody (top 52)) (defScope (top 52)) [] [] f fd) : FnOk P w K mg base CX0 8 f fd ["web", "place"] (spP K d_neighbours) :=
  def_ok F sc_neighbours rfl rfl (by decide) fun cdv A outer s H E hr => (pb_cons (pp_expr (px_cal C_check_web_place hr (by decide) (pg_cons' (px_var 0 (hv := Or.inl (by kernel_rfl))) (pg_cons' (px_var 1 (hv := Or.inl (by kernel_rfl))) pg_nil')))) (pb_one (pp_ret (px_t1 call_tuple_of o_tuple g.f_tuple (px_cal C_neighbours_of hr (by decide) (pg_cons' (px_var 0 (hv := Or.inl (by kernel_rfl))) (pg_cons' (px_var 1 (hv := Or.inl (by kernel_rfl))) pg_nil')))))))
theorem sc_is_bare : FnScope ["web"] ["web"] (defScope (top 53)) := ⟨rfl, rfl, rfl, by decide +kernel, rfl, by decide +kernel, by decide +kernel⟩
theorem ok_is_bare (g : Gs mg) (C_check_web : Cal P w K mg base 6 "check_web" ["web"] d_check_web) (C_is_bare_by : Cal P w K mg base 2 "is_bare_by" ["web"] d_is_bare_by) (F : FunD K "is_bare" "is_bare" (defArgs (top 53)) (defBody (top 53)) (defScope (top 53)) [] [] f fd) : FnOk P w K mg base CX0 7 f fd ["web"] (spP K d_is_bare) :=
  def_ok F sc_is_bare rfl rfl (by decide) fun cdv A outer s H E hr => (pb_cons (pp_expr (px_cal C_check_web hr (by decide) (pg_cons' (px_var 0 (hv := Or.inl (by kernel_rfl))) pg_nil'))) (pb_one (pp_ret (px_cal C_is_bare_by hr (by decide) (pg_cons' (px_var 0 (hv := Or.inl (by kernel_rfl))) pg_nil')))))
theorem sc__law_pot : FnScope ["script", "turn", "cell", "stirred", "each"] ["script", "turn"] (defScope (top 55)) := ⟨rfl, rfl, rfl, by decide +kernel, rfl, by decide +kernel, by decide +kernel⟩
theorem ok__law_pot (g : Gs mg)  (F : FunD K "_law_pot" "_law_pot" (defArgs (top 55)) (defBody (top 55)) (defScope (top 55)) [] [] f fd) : FnOk P w K mg base CX0 1 f fd ["script", "turn"] (spP K d__law_pot) :=
  def_ok F sc__law_pot rfl rfl (by decide) fun cdv A outer s H E hr => (pb_cons (pp_set sc__law_pot.nd (px_ife (pt_cmp' (op_lt2 (Room.up hr 64 (by decide))) o_lt (px_var 1 (hv := Or.inl (by kernel_rfl))) (px_b1 cr_lens o_len g.f_len (px_var 0 (hv := Or.inl (by kernel_rfl)))) (by rfl)) (px_t1 call_int1 o_int g.f_int (px_ix (ix_3 (Room.up hr 1 (by decide))) o_ix (px_var 0 (hv := Or.inl (by kernel_rfl))) (px_var 1 (hv := Or.inl (by kernel_rfl))) plainIx)) (px_op op_plus o_plus (px_op op_plus o_plus (px_op op_mul o_mul px_int (px_var 1 (hv := Or.inl (by kernel_rfl)))) px_int) (px_op op_mod o_mod (px_t1 call_int1 o_int g.f_int (px_b1 (cr_sum rfl) o_sum g.f_sum (px_slice (px_var 0 (hv := Or.inl (by kernel_rfl))) po_no (po_so px_int)))) px_int))) (hx := Or.inl (by kernel_rfl)) (hf := Or.inr (by kernel_rfl))) (pb_cons (pp_set sc__law_pot.nd (px_op op_plus o_plus px_int (px_op op_mul o_mul px_int (px_var 1 (hv := Or.inl (by kernel_rfl))))) (hx := Or.inl (by kernel_rfl)) (hf := Or.inr (by kernel_rfl))) (pb_cons (pp_for PassesOwn.never rfl (w_seq (px_op op_plus o_plus (px_slice (px_var 0 (hv := Or.inl (by kernel_rfl))) po_no (po_so px_int)) (px_lst (pl_cons (px_var 2 (hv := Or.inl (by kernel_rfl))) pl_nil)))) (tg_name sc__law_pot.nd (hx := Or.inl (by kernel_rfl)) (hf := Or.inr (by kernel_rfl))) (pb_one (pp_set sc__law_pot.nd (px_op op_mod o_mod (px_t1 call_int1 o_int g.f_int (px_op op_plus o_plus (px_op op_plus o_plus (px_op op_mul o_mul (px_var 3 (hv := Or.inl (by kernel_rfl))) px_int) (px_op op_mod o_mod (px_t1 call_int1 o_int g.f_int (px_var 4 (hv := Or.inl (by kernel_rfl)))) px_int)) px_int)) px_int) (hx := Or.inl (by kernel_rfl)) (hf := Or.inr (by kernel_rfl))))) (pb_one (pp_fixM 3 (pp_ret (px_lst (pl_cons (px_ife (PWt.t (pw_or' (pt_cmp' (op_lt2 (Room.up hr 64 (by decide))) o_lt (px_var 2 (hv := Or.inl (by kernel_rfl))) px_int (by rfl)) (pw_or1' (pt_cmp' (op_ge) o_ge (px_var 2 (hv := Or.inl (by kernel_rfl))) (px_op op_pow o_pow px_int px_int) (by rfl))))) (px_op op_mod o_mod (px_t1 call_int1 o_int g.f_int (px_b1 call_abs o_abs g.f_abs (px_var 2 (hv := Or.inl (by kernel_rfl))))) (px_op op_pow o_pow px_int px_int)) px_int) (pl_cons (px_var 3 (hv := Or.inl (by kernel_rfl))) (pl_cons px_int pl_nil))))))))))
theorem sc__law_draw : FnScope ["pot", "many", "digit"] ["pot", "many"] (defScope (top 56)) := ⟨rfl, rfl, rfl, by decide +kernel, rfl, by decide +kernel, by decide +kernel⟩
theorem ok__law_draw (g : Gs mg) (F : FunD K "_law_draw" "_law_draw" (defArgs (top 56)) (defBody (top 56)) (defScope (top 56)) [] [] f fd) : FnOk P w K mg base CX0 1 f fd ["pot", "many"] (spP K d__law_draw) := by
  refine F.ok sc__law_draw (fun vs H Q E h => ?_) fun cdv A outer s H vs Q E hr h => ⟨t_draw K, PSs.nox ?_, draw_run h⟩
  · obtain ⟨pt, F', as, Q', _, _, r, c, _⟩ := h; exact draw_len r c
  · exact pss_cons (ps_if (pt_cmpR op_gt (pe_ix ix_list (L2.pv 0) pe_int plainIx) pe_int (nomark _)) (pss_cons (ps_asg (pe_callB call_divmod (by (unfold L2.Gl; kernel_rfl)) g.f_divmod PyProof.Rows.boot_divmod (pa_cons (pe_ix ix_list (L2.pv 0) pe_int plainIx) (pa_cons (L2.pv 1) pa_nil))) (pg_tup rfl (pgs_cons (pg_sub (L2.pv 0) pe_int set_list) (pgs_cons (pg_name sc__law_draw.nd rfl (Or.inl rfl)) pgs_nil)))) (pss_one (ps_ret (L2.pv 2)))) pss_nil) (pss_cons (ps_asg (pe_op op_add (pe_ix ix_list (L2.pv 0) pe_int plainIx) pe_int) (pg_sub (L2.pv 0) pe_int set_list)) (pss_cons (ps_asg (pe_op op_mod (pe_callTy call_int1 (by (unfold L2.Gl; kernel_rfl)) g.f_int PyProof.Rows.boot_int (pa_cons (pe_op op_add (pe_op op_add (pe_op op_mul (pe_ix ix_list (L2.pv 0) pe_int plainIx) (pe_op op_add (pe_op op_mod (pe_callTy call_int1 (by (unfold L2.Gl; kernel_rfl)) g.f_int PyProof.Rows.boot_int (pa_cons (pe_ix ix_list (L2.pv 0) pe_int plainIx) pa_nil)) pe_int) pe_int)) (pe_op op_mul pe_int (pe_ix ix_list (L2.pv 0) pe_int plainIx))) pe_int) pa_nil)) pe_int) (pg_sub (L2.pv 0) pe_int set_list)) (pss_one (ps_ret (pe_op op_mod (pe_callTy call_int1 (by (unfold L2.Gl; kernel_rfl)) g.f_int PyProof.Rows.boot_int (pa_cons (pe_op op_fdiv (pe_ix ix_list (L2.pv 0) pe_int plainIx) pe_int) pa_nil)) (L2.pv 1))))))
theorem sc__law_pick : FnScope ["pot", "some"] ["pot", "some"] (defScope (top 57)) := ⟨rfl, rfl, rfl, by decide +kernel, rfl, by decide +kernel, by decide +kernel⟩
theorem ok__law_pick (g : Gs mg) (C__law_draw : Cal P w K mg base 1 "_law_draw" ["pot", "many"] d__law_draw) (F : FunD K "_law_pick" "_law_pick" (defArgs (top 57)) (defBody (top 57)) (defScope (top 57)) [] [] f fd) : FnOk P w K mg base CX0 2 f fd ["pot", "some"] (spP K d__law_pick) :=
  def_ok F sc__law_pick rfl rfl (by decide) fun cdv A outer s H E hr => (pb_one (pp_ret (px_ix (ix_3 (Room.up hr 1 (by decide))) o_ix (px_var 1 (hv := Or.inl (by kernel_rfl))) (px_cal C__law_draw hr (by decide) (pg_cons' (px_var 0 (hv := Or.inl (by kernel_rfl))) (pg_cons' (px_b1 cr_lens o_len g.f_len (px_var 1 (hv := Or.inl (by kernel_rfl)))) pg_nil'))) plainIx)))
theorem sc__law_web : FnScope ["pot", "many", "ties", "place", "turn", "tie", "one", "other"] ["pot", "many"] (defScope (top 58)) := ⟨rfl, rfl, rfl, by decide +kernel, rfl, by decide +kernel, by decide +kernel⟩
theorem ok__law_web (g : Gs mg) (C__law_draw : Cal P w K mg base 1 "_law_draw" ["pot", "many"] d__law_draw) (F : FunD K "_law_web" "_law_web" (defArgs (top 58)) (defBody (top 58)) (defScope (top 58)) [] [] f fd) : FnOk P w K mg base CX0 2 f fd ["pot", "many"] (spP K d__law_web) :=
  def_ok F sc__law_web rfl rfl (by decide) fun cdv A outer s H E hr => (pb_cons (pp_set sc__law_web.nd (px_lst pl_nil) (hx := Or.inl (by kernel_rfl)) (hf := Or.inr (by kernel_rfl))) (pb_cons (pp_for PassesOwn.never rfl (w_rng2 g.f_range px_int (px_var 1 (hv := Or.inl (by kernel_rfl)))) (tg_name sc__law_web.nd (hx := Or.inl (by kernel_rfl)) (hf := Or.inr (by kernel_rfl))) (pb_one (pp_append 2 (px_tup (pl_cons (px_cal C__law_draw hr (by decide) (pg_cons' (px_var 0 (hv := Or.inl (by kernel_rfl))) (pg_cons' (px_var 3 (hv := Or.inl (by kernel_rfl))) pg_nil'))) (pl_cons (px_var 3 (hv := Or.inl (by kernel_rfl))) pl_nil))) (hv := Or.inl (by kernel_rfl))))) (pb_cons (pp_for PassesOwn.never rfl (w_rng1 g.f_range (px_cal C__law_draw hr (by decide) (pg_cons' (px_var 0 (hv := Or.inl (by kernel_rfl))) (pg_cons' (px_op op_plus o_plus (px_var 1 (hv := Or.inl (by kernel_rfl))) px_int) pg_nil')))) (tg_name sc__law_web.nd (hx := Or.inl (by kernel_rfl)) (hf := Or.inr (by kernel_rfl))) (pb_cons (pp_par rfl sc__law_web.nd (px_cal C__law_draw hr (by decide) (pg_cons' (px_var 0 (hv := Or.inl (by kernel_rfl))) (pg_cons' (px_var 1 (hv := Or.inl (by kernel_rfl))) pg_nil'))) (px_cal C__law_draw hr (by decide) (pg_cons' (px_var 0 (hv := Or.inl (by kernel_rfl))) (pg_cons' (px_var 1 (hv := Or.inl (by kernel_rfl))) pg_nil')))) (pb_cons (pp_set sc__law_web.nd (px_tup (pl_cons (px_b2 (call_min2 rfl) o_min2 g.f_min (px_var 6 (hv := Or.inl (by kernel_rfl))) (px_var 7 (hv := Or.inl (by kernel_rfl)))) (pl_cons (px_b2 (call_max2 rfl) o_max2 g.f_max (px_var 6 (hv := Or.inl (by kernel_rfl))) (px_var 7 (hv := Or.inl (by kernel_rfl)))) pl_nil))) (hx := Or.inl (by kernel_rfl)) (hf := Or.inr (by kernel_rfl))) (pb_one (pp_set sc__law_web.nd (px_op op_plus o_plus (px_var 2 (hv := Or.inl (by kernel_rfl))) (px_ife (PWt.t (pw_and' (pt_cmp' (op_neD (Room.up hr 64 (by decide))) o_ne (px_var 6 (hv := Or.inl (by kernel_rfl))) (px_var 7 (hv := Or.inl (by kernel_rfl))) (by rfl)) (pw_and1' (pt_cmp' (op_nin3 (Room.up hr 65 (by decide))) o_nin (px_var 5 (hv := Or.inl (by kernel_rfl))) (px_var 2 (hv := Or.inl (by kernel_rfl))) (by rfl))))) (px_lst (pl_cons (px_var 5 (hv := Or.inl (by kernel_rfl))) pl_nil)) (px_lst pl_nil))) (hx := Or.inl (by kernel_rfl)) (hf := Or.inr (by kernel_rfl))))))) (pb_one (pp_ret (px_tup (pl_cons (px_var 1 (hv := Or.inl (by kernel_rfl))) (pl_cons (px_t1 call_tuple_of o_tuple g.f_tuple (px_b1 (cr_sorts rfl (Room.up hr 80 (by decide))) o_sorts g.f_sorted (px_var 2 (hv := Or.inl (by kernel_rfl))))) pl_nil))))))))
theorem sc__law_near : FnScope ["web", "place", "other"] ["web", "place"] (defScope (top 59)) := ⟨rfl, rfl, rfl, by decide +kernel, rfl, by decide +kernel, by decide +kernel⟩
theorem ok__law_near (g : Gs mg)  (F : FunD K "_law_near" "_law_near" (defArgs (top 59)) (defBody (top 59)) (defScope (top 59)) [] [] f fd) : FnOk P w K mg base CX0 1 f fd ["web", "place"] (spP K d__law_near) :=
  def_ok F sc__law_near rfl rfl (by decide) fun cdv A outer s H E hr => (pb_one (pp_ret (px_lc (own := [("other", 2)]) (ts := [2]) rfl sc__law_near.nd (w_rng1 g.f_range (px_ix (ix_3 (Room.up hr 1 (by decide))) o_ix (px_var 0 (hv := Or.inr (Or.inl (by kernel_rfl)))) px_int plainIx)) (blkOk_by (by kernel_rfl)) (fun _ _ _ _ _ => (tg_name sc__law_near.nd (hx := Or.inl (by kernel_rfl)) (hf := Or.inr (by kernel_rfl)))) (fun _ _ _ _ _ => (pts_1 (pt_cmp' (op_in3 (Room.up hr 65 (by decide))) o_in (px_tup (pl_cons (px_b2 (call_min2 rfl) o_min2 g.f_min (px_var 1 (hv := Or.inr (Or.inl (by kernel_rfl)))) (px_var 2 (hv := Or.inl (by kernel_rfl)))) (pl_cons (px_b2 (call_max2 rfl) o_max2 g.f_max (px_var 1 (hv := Or.inr (Or.inl (by kernel_rfl)))) (px_var 2 (hv := Or.inl (by kernel_rfl)))) pl_nil))) (px_ix (ix_3 (Room.up hr 1 (by decide))) o_ix (px_var 0 (hv := Or.inr (Or.inl (by kernel_rfl)))) px_int plainIx) (by rfl)))) (fun _ _ _ _ _ => (px_var 2 (hv := Or.inl (by kernel_rfl)))))))
theorem sc__law_goes : FnScope ["web", "place"] ["web", "place"] (defScope (top 60)) := ⟨rfl, rfl, rfl, by decide +kernel, rfl, by decide +kernel, by decide +kernel⟩
theorem ok__law_goes (g : Gs mg) (C__law_near : Cal P w K mg base 1 "_law_near" ["web", "place"] d__law_near) (F : FunD K "_law_goes" "_law_goes" (defArgs (top 60)) (defBody (top 60)) (defScope (top 60)) [] [] f fd) : FnOk P w K mg base CX0 2 f fd ["web", "place"] (spP K d__law_goes) :=
  def_ok F sc__law_goes rfl rfl (by decide) fun cdv A outer s H E hr => (pb_one (pp_ret (px_op op_plus o_plus (px_lst (pl_cons (px_var 1 (hv := Or.inl (by kernel_rfl))) pl_nil)) (px_cal C__law_near hr (by decide) (pg_cons' (px_var 0 (hv := Or.inl (by kernel_rfl))) (pg_cons' (px_var 1 (hv := Or.inl (by kernel_rfl))) pg_nil'))))))
theorem sc__law_closes : FnScope ["web", "pair", "told", "number", "found", "there", "hare"] ["web", "pair", "told", "number"] (defScope (top 62)) := ⟨rfl, rfl, rfl, by decide +kernel, rfl, by decide +kernel, by decide +kernel⟩
theorem ok__law_closes (g : Gs mg) (C__law_goes : Cal P w K mg base 2 "_law_goes" ["web", "place"] d__law_goes) (F : FunD K "_law_closes" "_law_closes" (defArgs (top 62)) (defBody (top 62)) (defScope (top 62)) [] [] f fd) : FnOk P w K mg base CX0 3 f fd ["web", "pair", "told", "number"] (spP K d__law_closes) :=
  def_ok F sc__law_closes rfl rfl (by decide) fun cdv A outer s H E hr => (pb_cons (pp_set sc__law_closes.nd (px_lst pl_nil) (hx := Or.inl (by kernel_rfl)) (hf := Or.inr (by kernel_rfl))) (pb_cons (pp_for PassesOwn.never rfl (w_seq (px_cal C__law_goes hr (by decide) (pg_cons' (px_var 0 (hv := Or.inl (by kernel_rfl))) (pg_cons' (px_ix (ix_3 (Room.up hr 1 (by decide))) o_ix (px_var 1 (hv := Or.inl (by kernel_rfl))) px_int plainIx) pg_nil')))) (tg_name sc__law_closes.nd (hx := Or.inr (by kernel_rfl)) (hf := Or.inl (by kernel_rfl))) (pb_one (pp_if (PWt.t (pw_or' (pt_cmp' (op_eqD (Room.up hr 64 (by decide))) o_eq (px_var 5 (hv := Or.inr (Or.inl (by kernel_rfl)))) (px_ix (ix_3 (Room.up hr 1 (by decide))) o_ix (px_var 1 (hv := Or.inl (by kernel_rfl))) px_int plainIx) (by rfl)) (pw_or1' (pt_val' (px_b1 (cr_all rfl) o_all g.f_all (px_lc (own := [("hare", 6)]) (ts := [6]) rfl sc__law_closes.nd (w_seq (px_cal C__law_goes hr (by decide) (pg_cons' (px_var 0 (hv := Or.inl (by kernel_rfl))) (pg_cons' (px_ix (ix_3 (Room.up hr 1 (by decide))) o_ix (px_var 1 (hv := Or.inl (by kernel_rfl))) px_int plainIx) pg_nil')))) (blkOk_by (by kernel_rfl)) (fun _ _ _ _ _ => (tg_name sc__law_closes.nd (hx := Or.inl (by kernel_rfl)) (hf := Or.inr (by kernel_rfl)))) (fun _ _ _ _ _ => pts_no) (fun _ _ _ _ _ => (px_cmp (op_lt2 (Room.up hr 64 (by decide))) o_lt (px_get2 (Room.up hr 1 (by decide)) (px_var 2 (hv := Or.inr (Or.inl (by kernel_rfl)))) (px_tup (pl_cons (px_var 5 (hv := Or.inr (Or.inl (by kernel_rfl)))) (pl_cons (px_var 6 (hv := Or.inl (by kernel_rfl))) pl_nil))) (px_var 3 (hv := Or.inr (Or.inl (by kernel_rfl))))) (px_var 3 (hv := Or.inr (Or.inl (by kernel_rfl)))) (by rfl))))))))) (pb_one (pp_append 4 (px_var 5 (hv := Or.inr (Or.inl (by kernel_rfl)))) (hv := Or.inl (by kernel_rfl)))) pb_nil))) (pb_one (pp_ret (px_b1 (cr_sorts rfl (Room.up hr 80 (by decide))) o_sorts g.f_sorted (px_var 4 (hv := Or.inl (by kernel_rfl))))))))
theorem sc__law_turns : FnScope ["web", "pairs", "one", "told", "number", "come", "pair", "other"] ["web"] (defScope (top 61)) := ⟨rfl, rfl, rfl, by decide +kernel, rfl, by decide +kernel, by decide +kernel⟩
theorem ok__law_turns (g : Gs mg) (C__law_closes : Cal P w K mg base 3 "_law_closes" ["web", "pair", "told", "number"] d__law_closes) (F : FunD K "_law_turns" "_law_turns" (defArgs (top 61)) (defBody (top 61)) (defScope (top 61)) [] [] f fd) : FnOk P w K mg base CX0 4 f fd ["web"] (spP K d__law_turns) :=
  def_ok F sc__law_turns rfl rfl (by decide) fun cdv A outer s H E hr => (pb_cons (pp_set sc__law_turns.nd (px_lst pl_nil) (hx := Or.inl (by kernel_rfl)) (hf := Or.inr (by kernel_rfl))) (pb_cons (pp_for PassesOwn.never rfl (w_rng1 g.f_range (px_ix (ix_3 (Room.up hr 1 (by decide))) o_ix (px_var 0 (hv := Or.inr (Or.inl (by kernel_rfl)))) px_int plainIx)) (tg_name sc__law_turns.nd (hx := Or.inr (by kernel_rfl)) (hf := Or.inl (by kernel_rfl))) (pb_one (pp_set sc__law_turns.nd (px_op op_plus o_plus (px_var 1 (hv := Or.inl (by kernel_rfl))) (px_lc (own := [("other", 7)]) (ts := [7]) rfl sc__law_turns.nd (w_rng1 g.f_range (px_ix (ix_3 (Room.up hr 1 (by decide))) o_ix (px_var 0 (hv := Or.inr (Or.inl (by kernel_rfl)))) px_int plainIx)) (blkOk_by (by kernel_rfl)) (fun _ _ _ _ _ => (tg_name sc__law_turns.nd (hx := Or.inl (by kernel_rfl)) (hf := Or.inr (by kernel_rfl)))) (fun _ _ _ _ _ => pts_no) (fun _ _ _ _ _ => (px_tup (pl_cons (px_var 2 (hv := Or.inr (Or.inl (by kernel_rfl)))) (pl_cons (px_var 7 (hv := Or.inl (by kernel_rfl))) pl_nil)))))) (hx := Or.inl (by kernel_rfl)) (hf := Or.inr (by kernel_rfl))))) (pb_cons (pp_set sc__law_turns.nd (px_t1 (call_dictT rfl (Room.up hr 3 (by decide))) o_dictT g.f_dict (px_lc (own := [("pair", 6)]) (ts := [6]) rfl sc__law_turns.nd (w_seq (px_var 1 (hv := Or.inl (by kernel_rfl)))) (blkOk_by (by kernel_rfl)) (fun _ _ _ _ _ => (tg_name sc__law_turns.nd (hx := Or.inl (by kernel_rfl)) (hf := Or.inr (by kernel_rfl)))) (fun _ _ _ _ _ => (pts_1 (pt_cmp' (op_eqD (Room.up hr 64 (by decide))) o_eq (px_ix (ix_3 (Room.up hr 1 (by decide))) o_ix (px_var 6 (hv := Or.inl (by kernel_rfl))) px_int plainIx) (px_ix (ix_3 (Room.up hr 1 (by decide))) o_ix (px_var 6 (hv := Or.inl (by kernel_rfl))) px_int plainIx) (by rfl)))) (fun _ _ _ _ _ => (px_tup (pl_cons (px_var 6 (hv := Or.inl (by kernel_rfl))) (pl_cons px_int pl_nil)))))) (hx := Or.inr (by kernel_rfl)) (hf := Or.inl (by kernel_rfl))) (pb_cons (pp_for PassesOwn.never rfl (w_rng2 g.f_range px_int (px_op op_plus o_plus (px_b1 cr_lens o_len g.f_len (px_var 1 (hv := Or.inl (by kernel_rfl)))) px_int)) (tg_name sc__law_turns.nd (hx := Or.inr (by kernel_rfl)) (hf := Or.inl (by kernel_rfl))) (pb_cons (pp_setLc (own := [("pair", 6)]) (ts := [6]) rfl sc__law_turns.nd (w_seq (px_var 1 (hv := Or.inl (by kernel_rfl)))) (blkOk_by (by kernel_rfl)) (fun _ _ _ _ _ => (tg_name sc__law_turns.nd (hx := Or.inl (by kernel_rfl)) (hf := Or.inr (by kernel_rfl)))) (fun _ _ _ _ _ => (pts_1 (PWt.t (pw_and' (pt_cmp' (op_nin3 (Room.up hr 65 (by decide))) o_nin (px_var 6 (hv := Or.inl (by kernel_rfl))) (px_var 3 (hv := Or.inr (Or.inl (by kernel_rfl)))) (by rfl)) (pw_and1' (pt_cmp' (op_neD (Room.up hr 64 (by decide))) o_ne (px_cal C__law_closes hr (by decide) (pg_cons' (px_var 0 (hv := Or.inr (Or.inl (by kernel_rfl)))) (pg_cons' (px_var 6 (hv := Or.inl (by kernel_rfl))) (pg_cons' (px_var 3 (hv := Or.inr (Or.inl (by kernel_rfl)))) (pg_cons' (px_var 4 (hv := Or.inr (Or.inl (by kernel_rfl)))) pg_nil'))))) (px_lst pl_nil) (by rfl))))))) (fun _ _ _ _ _ => (px_var 6 (hv := Or.inl (by kernel_rfl))))) (pb_cons (pp_update 3 rfl (Room.up hr 2 (by decide)) (px_lc (own := [("pair", 6)]) (ts := [6]) rfl sc__law_turns.nd (w_seq (px_var 5 (hv := Or.inl (by kernel_rfl)))) (blkOk_by (by kernel_rfl)) (fun _ _ _ _ _ => (tg_name sc__law_turns.nd (hx := Or.inl (by kernel_rfl)) (hf := Or.inr (by kernel_rfl)))) (fun _ _ _ _ _ => pts_no) (fun _ _ _ _ _ => (px_tup (pl_cons (px_var 6 (hv := Or.inl (by kernel_rfl))) (pl_cons (px_var 4 (hv := Or.inr (Or.inl (by kernel_rfl)))) pl_nil))))) (hv := Or.inr (Or.inl (by kernel_rfl)))) (pb_one (pp_if (pt_cmp' (op_eqD (Room.up hr 64 (by decide))) o_eq (px_var 5 (hv := Or.inl (by kernel_rfl))) (px_lst pl_nil) (by rfl)) (pb_one pp_break) pb_nil))))) (pb_one (pp_ret (px_var 3 (hv := Or.inr (Or.inl (by kernel_rfl))))))))))
theorem sc__law_hunted : FnScope ["pot", "web", "one", "other", "told", "is_hard", "move", "there", "some", "turns", "hare"] ["pot", "web", "one", "other", "told", "is_hard"] (defScope (top 63)) := ⟨rfl, rfl, rfl, by decide +kernel, rfl, by decide +kernel, by decide +kernel⟩
theorem ok__law_hunted (g : Gs mg) (C_hunter_move : Cal P w K mg base 10 "hunter_move" ["web", "place", "other_place"] d_hunter_move) (C_neighbours : Cal P w K mg base 8 "neighbours" ["web", "place"] d_neighbours) (C__law_goes : Cal P w K mg base 2 "_law_goes" ["web", "place"] d__law_goes) (C__law_pick : Cal P w K mg base 2 "_law_pick" ["pot", "some"] d__law_pick) (F : FunD K "_law_hunted" "_law_hunted" (defArgs (top 63)) (defBody (top 63)) (defScope (top 63)) [] [] f fd) : FnOk P w K mg base CX0 11 f fd ["pot", "web", "one", "other", "told", "is_hard"] (spP K d__law_hunted) :=
  def_ok F sc__law_hunted rfl rfl (by decide) fun cdv A outer s H E hr => (pb_cons (pp_for PassesOwn.never rfl (w_rng1 g.f_range px_int) (tg_name sc__law_hunted.nd (hx := Or.inl (by kernel_rfl)) (hf := Or.inr (by kernel_rfl))) (pb_cons (pp_if (pt_cmp' (op_eqD (Room.up hr 64 (by decide))) o_eq (px_var 2 (hv := Or.inl (by kernel_rfl))) (px_var 3 (hv := Or.inl (by kernel_rfl))) (by rfl)) (pb_one (pp_ret (px_var 6 (hv := Or.inl (by kernel_rfl))))) pb_nil) (pb_cons (pp_set sc__law_hunted.nd (px_cal C_hunter_move hr (by decide) (pg_cons' (px_var 1 (hv := Or.inl (by kernel_rfl))) (pg_cons' (px_var 2 (hv := Or.inl (by kernel_rfl))) (pg_cons' (px_var 3 (hv := Or.inl (by kernel_rfl))) pg_nil')))) (hx := Or.inr (by kernel_rfl)) (hf := Or.inl (by kernel_rfl))) (pb_cons (pp_if (PWt.t (pw_or' (pt_cmp' (op_isN) o_is (px_var 7 (hv := Or.inr (Or.inl (by kernel_rfl)))) px_non (by rfl)) (pw_or1' (PWt.t (pw_and' (pt_cmp' (op_neD (Room.up hr 64 (by decide))) o_ne (px_var 7 (hv := Or.inr (Or.inl (by kernel_rfl)))) (px_var 2 (hv := Or.inl (by kernel_rfl))) (by rfl)) (pw_and1' (pt_cmp' (op_nin3 (Room.up hr 65 (by decide))) o_nin (px_var 7 (hv := Or.inr (Or.inl (by kernel_rfl)))) (px_cal C_neighbours hr (by decide) (pg_cons' (px_var 1 (hv := Or.inl (by kernel_rfl))) (pg_cons' (px_var 2 (hv := Or.inl (by kernel_rfl))) pg_nil'))) (by rfl)))))))) (pb_one (pp_ret px_int)) pb_nil) (pb_cons (pp_if (pt_cmp' (op_eqD (Room.up hr 64 (by decide))) o_eq (px_var 7 (hv := Or.inr (Or.inl (by kernel_rfl)))) (px_var 3 (hv := Or.inl (by kernel_rfl))) (by rfl)) (pb_one (pp_ret (px_op op_plus o_plus (px_var 6 (hv := Or.inl (by kernel_rfl))) px_int))) pb_nil) (pb_cons (pp_set sc__law_hunted.nd (px_b1 (cr_sorts rfl (Room.up hr 80 (by decide))) o_sorts g.f_sorted (px_cal C__law_goes hr (by decide) (pg_cons' (px_var 1 (hv := Or.inl (by kernel_rfl))) (pg_cons' (px_var 3 (hv := Or.inl (by kernel_rfl))) pg_nil')))) (hx := Or.inl (by kernel_rfl)) (hf := Or.inr (by kernel_rfl))) (pb_cons (pp_fixM 7 (pp_setLc (own := [("hare", 10)]) (ts := [10]) rfl sc__law_hunted.nd (w_seq (px_var 8 (hv := Or.inl (by kernel_rfl)))) (blkOk_by (by kernel_rfl)) (fun _ _ _ _ _ => (tg_name sc__law_hunted.nd (hx := Or.inl (by kernel_rfl)) (hf := Or.inr (by kernel_rfl)))) (fun _ _ _ _ _ => pts_no) (fun _ _ _ _ _ => (px_get2 (Room.up hr 1 (by decide)) (px_var 4 (hv := Or.inr (Or.inl (by kernel_rfl)))) (px_tup (pl_cons (px_var 7 (hv := Or.inr (Or.inl (by kernel_rfl)))) (pl_cons (px_var 10 (hv := Or.inl (by kernel_rfl))) pl_nil))) px_int)))) (pb_one (pp_fixM 7 (pp_par rfl sc__law_hunted.nd (px_var 7 (hv := Or.inr (Or.inl (by kernel_rfl)))) (px_ife (pt_val' (px_var 5 (hv := Or.inl (by kernel_rfl)))) (px_ix (ix_3 (Room.up hr 1 (by decide))) o_ix (px_var 8 (hv := Or.inl (by kernel_rfl))) (px_index (Room.up hr 65 (by decide)) (px_var 9 (hv := Or.inl (by kernel_rfl))) (px_b1 (cr_max rfl) o_max g.f_max (px_var 9 (hv := Or.inl (by kernel_rfl))))) plainIx) (px_cal C__law_pick hr (by decide) (pg_cons' (px_var 0 (hv := Or.inl (by kernel_rfl))) (pg_cons' (px_var 8 (hv := Or.inl (by kernel_rfl))) pg_nil')))))))))))))) (pb_one (pp_ret px_int)))
theorem sc__law_runs : FnScope ["pot", "web", "one", "other", "free", "move", "there", "some", "hare"] ["pot", "web", "one", "other"] (defScope (top 64)) := ⟨rfl, rfl, rfl, by decide +kernel, rfl, by decide +kernel, by decide +kernel⟩
theorem ok__law_runs (g : Gs mg) (C_free_pairs : Cal P w K mg base 10 "free_pairs" ["web"] d_free_pairs) (C__law_pick : Cal P w K mg base 2 "_law_pick" ["pot", "some"] d__law_pick) (C__law_goes : Cal P w K mg base 2 "_law_goes" ["web", "place"] d__law_goes) (C_neighbours : Cal P w K mg base 8 "neighbours" ["web", "place"] d_neighbours) (C_chase_turns : Cal P w K mg base 9 "chase_turns" ["web", "place", "other_place"] d_chase_turns) (F : FunD K "_law_runs" "_law_runs" (defArgs (top 64)) (defBody (top 64)) (defScope (top 64)) [] [] f fd) : FnOk P w K mg base CX0 11 f fd ["pot", "web", "one", "other"] (spP K d__law_runs) :=
  def_ok F sc__law_runs rfl rfl (by decide) fun cdv A outer s H E hr => (pb_cons (pp_set sc__law_runs.nd (px_cal C_free_pairs hr (by decide) (pg_cons' (px_var 1 (hv := Or.inl (by kernel_rfl))) pg_nil')) (hx := Or.inr (by kernel_rfl)) (hf := Or.inl (by kernel_rfl))) (pb_cons (pp_for PassesOwn.never rfl (w_rng1 g.f_range px_int) (tg_name sc__law_runs.nd (hx := Or.inl (by kernel_rfl)) (hf := Or.inr (by kernel_rfl))) (pb_cons (pp_set sc__law_runs.nd (px_cal C__law_pick hr (by decide) (pg_cons' (px_var 0 (hv := Or.inl (by kernel_rfl))) (pg_cons' (px_cal C__law_goes hr (by decide) (pg_cons' (px_var 1 (hv := Or.inl (by kernel_rfl))) (pg_cons' (px_var 2 (hv := Or.inl (by kernel_rfl))) pg_nil'))) pg_nil'))) (hx := Or.inr (by kernel_rfl)) (hf := Or.inl (by kernel_rfl))) (pb_cons (pp_fixM 3 (pp_fixM 6 (pp_setLc (own := [("hare", 8)]) (ts := [8]) rfl sc__law_runs.nd (w_seq (px_op op_plus o_plus (px_lst (pl_cons (px_var 3 (hv := Or.inl (by kernel_rfl))) pl_nil)) (px_t1 call_list_of o_list g.f_list (px_cal C_neighbours hr (by decide) (pg_cons' (px_var 1 (hv := Or.inl (by kernel_rfl))) (pg_cons' (px_var 3 (hv := Or.inl (by kernel_rfl))) pg_nil')))))) (blkOk_by (by kernel_rfl)) (fun _ _ _ _ _ => (tg_name sc__law_runs.nd (hx := Or.inl (by kernel_rfl)) (hf := Or.inr (by kernel_rfl)))) (fun _ _ _ _ _ => (pts_1 (pt_cmp' (op_in3 (Room.up hr 65 (by decide))) o_in (px_tup (pl_cons (px_var 6 (hv := Or.inr (Or.inl (by kernel_rfl)))) (pl_cons (px_var 8 (hv := Or.inl (by kernel_rfl))) pl_nil))) (px_var 4 (hv := Or.inr (Or.inl (by kernel_rfl)))) (by rfl)))) (fun _ _ _ _ _ => (px_var 8 (hv := Or.inl (by kernel_rfl))))))) (pb_cons (pp_if (PWt.t (pw_or' (pt_cmp' (op_eqD (Room.up hr 64 (by decide))) o_eq (px_var 6 (hv := Or.inr (Or.inl (by kernel_rfl)))) (px_var 3 (hv := Or.inl (by kernel_rfl))) (by rfl)) (pw_or' (pt_cmp' (op_eqD (Room.up hr 64 (by decide))) o_eq (px_var 7 (hv := Or.inl (by kernel_rfl))) (px_lst pl_nil) (by rfl)) (pw_or1' (pt_cmp' (op_notN) o_isn (px_cal C_chase_turns hr (by decide) (pg_cons' (px_var 1 (hv := Or.inl (by kernel_rfl))) (pg_cons' (px_var 2 (hv := Or.inl (by kernel_rfl))) (pg_cons' (px_var 3 (hv := Or.inl (by kernel_rfl))) pg_nil')))) px_non (by rfl)))))) (pb_one (pp_ret px_bl)) pb_nil) (pb_one (pp_fixM 6 (pp_par rfl sc__law_runs.nd (px_var 6 (hv := Or.inr (Or.inl (by kernel_rfl)))) (px_cal C__law_pick hr (by decide) (pg_cons' (px_var 0 (hv := Or.inl (by kernel_rfl))) (pg_cons' (px_var 7 (hv := Or.inl (by kernel_rfl))) pg_nil')))))))))) (pb_one (pp_ret px_bl))))
theorem sc__law_web_right : FnScope ["pot", "web", "told", "turn", "number", "one", "other"] ["pot"] (defScope (top 65)) := ⟨rfl, rfl, rfl, by decide +kernel, rfl, by decide +kernel, by decide +kernel⟩
theorem ok__law_web_right (g : Gs mg) (C__law_web : Cal P w K mg base 2 "_law_web" ["pot", "many"] d__law_web) (C__law_draw : Cal P w K mg base 1 "_law_draw" ["pot", "many"] d__law_draw) (C__law_turns : Cal P w K mg base 4 "_law_turns" ["web"] d__law_turns) (C_chase_turns : Cal P w K mg base 9 "chase_turns" ["web", "place", "other_place"] d_chase_turns) (C__law_runs : Cal P w K mg base 11 "_law_runs" ["pot", "web", "one", "other"] d__law_runs) (C__law_hunted : Cal P w K mg base 11 "_law_hunted" ["pot", "web", "one", "other", "told", "is_hard"] d__law_hunted) (C_is_bare : Cal P w K mg base 7 "is_bare" ["web"] d_is_bare) (C_can_chase : Cal P w K mg base 10 "can_chase" ["web"] d_can_chase) (C_fold_row : Cal P w K mg base 8 "fold_row" ["web"] d_fold_row) (C_free_pairs : Cal P w K mg base 10 "free_pairs" ["web"] d_free_pairs) (F : FunD K "_law_web_right" "_law_web_right" (defArgs (top 65)) (defBody (top 65)) (defScope (top 65)) [] [] f fd) : FnOk P w K mg base CX0 12 f fd ["pot"] (spP K d__law_web_right) :=
  def_ok F sc__law_web_right rfl rfl (by decide) fun cdv A outer s H E hr => (pb_cons (pp_set sc__law_web_right.nd (px_cal C__law_web hr (by decide) (pg_cons' (px_var 0 (hv := Or.inl (by kernel_rfl))) (pg_cons' (px_op op_plus o_plus px_int (px_cal C__law_draw hr (by decide) (pg_cons' (px_var 0 (hv := Or.inl (by kernel_rfl))) (pg_cons' px_int pg_nil')))) pg_nil'))) (hx := Or.inl (by kernel_rfl)) (hf := Or.inr (by kernel_rfl))) (pb_cons (pp_set sc__law_web_right.nd (px_cal C__law_turns hr (by decide) (pg_cons' (px_var 1 (hv := Or.inl (by kernel_rfl))) pg_nil')) (hx := Or.inl (by kernel_rfl)) (hf := Or.inr (by kernel_rfl))) (pb_cons (pp_for PassesOwn.never rfl (w_seq (px_tup (pl_cons px_int (pl_cons px_int (pl_cons px_int pl_nil))))) (tg_name sc__law_web_right.nd (hx := Or.inl (by kernel_rfl)) (hf := Or.inr (by kernel_rfl))) (pb_cons (pp_par rfl sc__law_web_right.nd (px_cal C__law_draw hr (by decide) (pg_cons' (px_var 0 (hv := Or.inl (by kernel_rfl))) (pg_cons' (px_ix (ix_3 (Room.up hr 1 (by decide))) o_ix (px_var 1 (hv := Or.inl (by kernel_rfl))) px_int plainIx) pg_nil'))) (px_cal C__law_draw hr (by decide) (pg_cons' (px_var 0 (hv := Or.inl (by kernel_rfl))) (pg_cons' (px_ix (ix_3 (Room.up hr 1 (by decide))) o_ix (px_var 1 (hv := Or.inl (by kernel_rfl))) px_int plainIx) pg_nil')))) (pb_cons (pp_set sc__law_web_right.nd (px_cal C_chase_turns hr (by decide) (pg_cons' (px_var 1 (hv := Or.inl (by kernel_rfl))) (pg_cons' (px_var 5 (hv := Or.inl (by kernel_rfl))) (pg_cons' (px_var 6 (hv := Or.inl (by kernel_rfl))) pg_nil')))) (hx := Or.inl (by kernel_rfl)) (hf := Or.inr (by kernel_rfl))) (pb_cons (pp_if (pt_cmp' (op_neD (Room.up hr 64 (by decide))) o_ne (px_var 4 (hv := Or.inl (by kernel_rfl))) (px_get2 (Room.up hr 1 (by decide)) (px_var 2 (hv := Or.inl (by kernel_rfl))) (px_tup (pl_cons (px_var 5 (hv := Or.inl (by kernel_rfl))) (pl_cons (px_var 6 (hv := Or.inl (by kernel_rfl))) pl_nil))) px_non) (by rfl)) (pb_one (pp_ret px_bl)) pb_nil) (pb_one (pp_if (pt_cmp' (op_isN) o_is (px_var 4 (hv := Or.inl (by kernel_rfl))) px_non (by rfl)) (pb_one (pp_if (pt_not' (pt_val' (px_cal C__law_runs hr (by decide) (pg_cons' (px_var 0 (hv := Or.inl (by kernel_rfl))) (pg_cons' (px_var 1 (hv := Or.inl (by kernel_rfl))) (pg_cons' (px_var 5 (hv := Or.inl (by kernel_rfl))) (pg_cons' (px_var 6 (hv := Or.inl (by kernel_rfl))) pg_nil'))))))) (pb_one (pp_ret px_bl)) pb_nil)) (pb_one (pp_if (PWt.t (pw_or' (pt_cmp' (op_neD (Room.up hr 64 (by decide))) o_ne (px_cal C__law_hunted hr (by decide) (pg_cons' (px_var 0 (hv := Or.inl (by kernel_rfl))) (pg_cons' (px_var 1 (hv := Or.inl (by kernel_rfl))) (pg_cons' (px_var 5 (hv := Or.inl (by kernel_rfl))) (pg_cons' (px_var 6 (hv := Or.inl (by kernel_rfl))) (pg_cons' (px_var 2 (hv := Or.inl (by kernel_rfl))) (pg_cons' px_bl pg_nil'))))))) (px_var 4 (hv := Or.inl (by kernel_rfl))) (by rfl)) (pw_or1' (pt_cmp' (op_gt) o_gt (px_cal C__law_hunted hr (by decide) (pg_cons' (px_var 0 (hv := Or.inl (by kernel_rfl))) (pg_cons' (px_var 1 (hv := Or.inl (by kernel_rfl))) (pg_cons' (px_var 5 (hv := Or.inl (by kernel_rfl))) (pg_cons' (px_var 6 (hv := Or.inl (by kernel_rfl))) (pg_cons' (px_var 2 (hv := Or.inl (by kernel_rfl))) (pg_cons' px_bl pg_nil'))))))) (px_var 4 (hv := Or.inl (by kernel_rfl))) (by rfl))))) (pb_one (pp_ret px_bl)) pb_nil)))))))) (pb_cons (pp_if (PWt.t (pw_and' (pt_val' (px_cal C_is_bare hr (by decide) (pg_cons' (px_var 1 (hv := Or.inl (by kernel_rfl))) pg_nil'))) (pw_and1' (pt_not' (pt_val' (px_cal C_can_chase hr (by decide) (pg_cons' (px_var 1 (hv := Or.inl (by kernel_rfl))) pg_nil'))))))) (pb_one (pp_ret px_bl)) pb_nil) (pb_one (pp_ret (px_cmp (op_eqD (Room.up hr 64 (by decide))) o_eq (px_cmp (op_eqD (Room.up hr 64 (by decide))) o_eq (px_b1 cr_lens o_len g.f_len (px_cal C_fold_row hr (by decide) (pg_cons' (px_var 1 (hv := Or.inl (by kernel_rfl))) pg_nil'))) (px_op op_sub o_sub (px_ix (ix_3 (Room.up hr 1 (by decide))) o_ix (px_var 1 (hv := Or.inl (by kernel_rfl))) px_int plainIx) px_int) (by rfl)) (px_cmp (op_eqD (Room.up hr 64 (by decide))) o_eq (px_cal C_free_pairs hr (by decide) (pg_cons' (px_var 1 (hv := Or.inl (by kernel_rfl))) pg_nil')) (px_tup pl_nil) (by rfl)) (by rfl))))))))
theorem sc__law_right : FnScope ["pot", "turn"] ["pot"] (defScope (top 66)) := ⟨rfl, rfl, rfl, by decide +kernel, rfl, by decide +kernel, by decide +kernel⟩
theorem ok__law_right (g : Gs mg) (C__law_web_right : Cal P w K mg base 12 "_law_web_right" ["pot"] d__law_web_right) (F : FunD K "_law_right" "_law_right" (defArgs (top 66)) (defBody (top 66)) (defScope (top 66)) [] [] f fd) : FnOk P w K mg base CX0 13 f fd ["pot"] (spP K d__law_right) :=
  def_ok F sc__law_right rfl rfl (by decide) fun cdv A outer s H E hr => (pb_one (pp_ret (px_b1 (cr_all rfl) o_all g.f_all (px_lc (own := [("turn", 1)]) (ts := [1]) rfl sc__law_right.nd (w_rng1 g.f_range px_int) (blkOk_by (by kernel_rfl)) (fun _ _ _ _ _ => (tg_name sc__law_right.nd (hx := Or.inl (by kernel_rfl)) (hf := Or.inr (by kernel_rfl)))) (fun _ _ _ _ _ => pts_no) (fun _ _ _ _ _ => (px_cal C__law_web_right hr (by decide) (pg_cons' (px_var 0 (hv := Or.inr (Or.inl (by kernel_rfl)))) pg_nil')))))))
theorem sc_law : FnScope ["script", "turn"] ["script"] (defScope (top 67)) := ⟨rfl, rfl, rfl, by decide +kernel, rfl, by decide +kernel, by decide +kernel⟩
theorem ok_law (g : Gs mg) (C__law_right : Cal P w K mg base 13 "_law_right" ["pot"] d__law_right) (C__law_pot : Cal P w K mg base 1 "_law_pot" ["script", "turn"] d__law_pot) (F : FunD K "law" "law" (defArgs (top 67)) (defBody (top 67)) (defScope (top 67)) [] [] f fd) : FnOk P w K mg base CX0 14 f fd ["script"] (spP K d_law) :=
  def_ok F sc_law rfl rfl (by decide) fun cdv A outer s H E hr => (pb_one (pp_ret (px_b1 (cr_all rfl) o_all g.f_all (px_lc (own := [("turn", 1)]) (ts := [1]) rfl sc_law.nd (w_seq (px_tup (pl_cons px_int (pl_cons px_int pl_nil)))) (blkOk_by (by kernel_rfl)) (fun _ _ _ _ _ => (tg_name sc_law.nd (hx := Or.inl (by kernel_rfl)) (hf := Or.inr (by kernel_rfl)))) (fun _ _ _ _ _ => pts_no) (fun _ _ _ _ _ => (px_calP C__law_right hr (by decide) (px_cal C__law_pot hr (by decide) (pg_cons' (px_var 0 (hv := Or.inr (Or.inl (by kernel_rfl)))) (pg_cons' (px_var 1 (hv := Or.inl (by kernel_rfl))) pg_nil')))))))))
end
abbrev mkD (x : Str) (i : Nat) : He.DefD := ⟨(x, none), x, x, defArgs (top i), defBody (top i), defScope (top i), [], []⟩
def fn0 : List He.DefD := [mkD "is_whole" 1, mkD "is_between" 2, mkD "is_tuple_of" 3, mkD "is_ascending" 4, mkD "is_place_number" 7, mkD "place_count" 8, mkD "ties_of" 9, mkD "places_of" 10, mkD "is_place_of" 11, mkD "is_tie_of" 12, mkD "are_ties" 13, mkD "neighbours_of" 14, mkD "part_with" 15, mkD "hangs_by" 16, mkD "is_webbed" 17, mkD "is_bare_by" 18, mkD "goes_of" 20, mkD "all_pairs" 21, mkD "pairs_behind" 22, mkD "does_close" 23, mkD "closing_moves" 24, mkD "pairs_closed" 25, mkD "turns_of" 26, mkD "free_of" 27, mkD "first_move_by" 28, mkD "check_web" 34, mkD "check_place" 35, mkD "check_web_place" 36, mkD "check_two_places" 37, mkD "chase_turns" 39]
def fn1 : List He.DefD := [mkD "can_chase" 40, mkD "free_pairs" 41, mkD "hunter_move" 42, mkD "beside_within" 44, mkD "can_fold_by" 45, mkD "folds_by" 46, mkD "lot_without" 47, mkD "folded_of" 48, mkD "fold_row" 50, mkD "neighbours" 52, mkD "is_bare" 53, mkD "_law_pot" 55, mkD "_law_draw" 56, mkD "_law_pick" 57, mkD "_law_web" 58, mkD "_law_near" 59, mkD "_law_goes" 60, mkD "_law_turns" 61, mkD "_law_closes" 62, mkD "_law_hunted" 63, mkD "_law_runs" 64, mkD "_law_web_right" 65, mkD "_law_right" 66, mkD "law" 67]
def fn : List He.DefD := fn0 ++ fn1
def fa0 : List He.Fa := [.glo "is_whole", .glo "is_between", .glo "is_tuple_of", .glo "is_ascending", .glo "is_place_number", .glo "place_count", .glo "ties_of", .glo "places_of", .glo "is_place_of", .glo "is_tie_of", .glo "are_ties", .glo "neighbours_of", .glo "part_with", .glo "hangs_by", .glo "is_webbed", .glo "is_bare_by", .glo "goes_of", .glo "all_pairs", .glo "pairs_behind", .glo "does_close", .glo "closing_moves", .glo "pairs_closed", .glo "turns_of", .glo "free_of", .glo "first_move_by", .glo "check_web", .glo "check_place", .glo "check_web_place", .glo "check_two_places", .glo "chase_turns"]
def fa1 : List He.Fa := [.glo "can_chase", .glo "free_pairs", .glo "hunter_move", .glo "beside_within", .glo "can_fold_by", .glo "folds_by", .glo "lot_without", .glo "folded_of", .glo "fold_row", .glo "neighbours", .glo "is_bare", .glo "_law_pot", .glo "_law_draw", .glo "_law_pick", .glo "_law_web", .glo "_law_near", .glo "_law_goes", .glo "_law_turns", .glo "_law_closes", .glo "_law_hunted", .glo "_law_runs", .glo "_law_web_right", .glo "_law_right", .glo "law", .free "ValueError", .free "abs", .free "all", .free "bool", .free "dict", .free "divmod"]
def fa2 : List He.Fa := [.free "enumerate", .free "int", .free "isinstance", .free "len", .free "list", .free "max", .free "min", .free "range", .free "sorted", .free "sum", .free "tuple", .free "zip", .int "MOST_PLACES" 6]
def fa : List He.Fa := fa0 ++ fa1 ++ fa2
def names0 : List PySem.Str := ["is_whole", "is_between", "is_tuple_of", "is_ascending", "MOST_PLACES", "is_place_number", "place_count", "ties_of", "places_of", "is_place_of", "is_tie_of", "are_ties", "neighbours_of", "part_with", "hangs_by", "is_webbed", "is_bare_by", "goes_of", "all_pairs", "pairs_behind", "does_close", "closing_moves", "pairs_closed", "turns_of", "free_of", "first_move_by", "WebError", "InvalidWeb", "InvalidPlace", "check_web"]
def names1 : List PySem.Str := ["check_place", "check_web_place", "check_two_places", "chase_turns", "can_chase", "free_pairs", "hunter_move", "beside_within", "can_fold_by", "folds_by", "lot_without", "folded_of", "fold_row", "neighbours", "is_bare", "_law_pot", "_law_draw", "_law_pick", "_law_web", "_law_near", "_law_goes", "_law_turns", "_law_closes", "_law_hunted", "_law_runs", "_law_web_right", "_law_right"]
def names : List PySem.Str := names0 ++ names1
theorem gs {K : PySem.W.Frag} {h : Heap} {mg : Str → Option Value} (X : K.In h) (G : h.Ns mainGlobals mg) (c : He.SaysD fa fn K) : Gs mg where
  f_ValueError := He.free_ok X G (c.fact 54 (f := .free "ValueError") rfl)
  f_abs := He.free_ok X G (c.fact 55 (f := .free "abs") rfl)
  f_all := He.free_ok X G (c.fact 56 (f := .free "all") rfl)
  f_bool := He.free_ok X G (c.fact 57 (f := .free "bool") rfl)
  f_dict := He.free_ok X G (c.fact 58 (f := .free "dict") rfl)
  f_divmod := He.free_ok X G (c.fact 59 (f := .free "divmod") rfl)
  f_enumerate := He.free_ok X G (c.fact 60 (f := .free "enumerate") rfl)
  f_int := He.free_ok X G (c.fact 61 (f := .free "int") rfl)
  f_isinstance := He.free_ok X G (c.fact 62 (f := .free "isinstance") rfl)
  f_len := He.free_ok X G (c.fact 63 (f := .free "len") rfl)
  f_list := He.free_ok X G (c.fact 64 (f := .free "list") rfl)
  f_max := He.free_ok X G (c.fact 65 (f := .free "max") rfl)
  f_min := He.free_ok X G (c.fact 66 (f := .free "min") rfl)
  f_range := He.free_ok X G (c.fact 67 (f := .free "range") rfl)
  f_sorted := He.free_ok X G (c.fact 68 (f := .free "sorted") rfl)
  f_sum := He.free_ok X G (c.fact 69 (f := .free "sum") rfl)
  f_tuple := He.free_ok X G (c.fact 70 (f := .free "tuple") rfl)
  f_zip := He.free_ok X G (c.fact 71 (f := .free "zip") rfl)
  i_MOST_PLACES := He.int_ok X G (c.fact 72 (f := .int "MOST_PLACES" 6) rfl)
theorem facts {P : Program} {w : World} {K : PySem.W.Frag} {h : Heap} {mg : Str → Option Value} {f : Addr} (X : K.In h) (G : h.Ns mainGlobals mg) (hfa : mg ("law" : Str) = some (.ref f)) (c : He.SaysD fa fn K) :
    ∃ fd : FuncData, (∀ (s : Shared) (v : Value), BindsTo s fd ⟨[v], []⟩ [("script", v)]) ∧ ∀ base : Heap, K.In base → base.Ns mainGlobals mg → FnOk P w K mg base CX0 14 f fd ["script"] (spP K d_law) := by
  have g := gs X G c
  obtain ⟨fd_is_whole, F_is_whole⟩ := c.def_ 0 (d := mkD "is_whole" 1) rfl
  obtain ⟨fd_is_between, F_is_between⟩ := c.def_ 1 (d := mkD "is_between" 2) rfl
  obtain ⟨fd_is_tuple_of, F_is_tuple_of⟩ := c.def_ 2 (d := mkD "is_tuple_of" 3) rfl
  obtain ⟨fd_is_ascending, F_is_ascending⟩ := c.def_ 3 (d := mkD "is_ascending" 4) rfl
  obtain ⟨fd_is_place_number, F_is_place_number⟩ := c.def_ 4 (d := mkD "is_place_number" 7) rfl
  obtain ⟨fd_place_count, F_place_count⟩ := c.def_ 5 (d := mkD "place_count" 8) rfl
  obtain ⟨fd_ties_of, F_ties_of⟩ := c.def_ 6 (d := mkD "ties_of" 9) rfl
  obtain ⟨fd_places_of, F_places_of⟩ := c.def_ 7 (d := mkD "places_of" 10) rfl
  obtain ⟨fd_is_place_of, F_is_place_of⟩ := c.def_ 8 (d := mkD "is_place_of" 11) rfl
  obtain ⟨fd_is_tie_of, F_is_tie_of⟩ := c.def_ 9 (d := mkD "is_tie_of" 12) rfl
  obtain ⟨fd_are_ties, F_are_ties⟩ := c.def_ 10 (d := mkD "are_ties" 13) rfl
  obtain ⟨fd_neighbours_of, F_neighbours_of⟩ := c.def_ 11 (d := mkD "neighbours_of" 14) rfl
  obtain ⟨fd_part_with, F_part_with⟩ := c.def_ 12 (d := mkD "part_with" 15) rfl
  obtain ⟨fd_hangs_by, F_hangs_by⟩ := c.def_ 13 (d := mkD "hangs_by" 16) rfl
  obtain ⟨fd_is_webbed, F_is_webbed⟩ := c.def_ 14 (d := mkD "is_webbed" 17) rfl
  obtain ⟨fd_is_bare_by, F_is_bare_by⟩ := c.def_ 15 (d := mkD "is_bare_by" 18) rfl
  obtain ⟨fd_goes_of, F_goes_of⟩ := c.def_ 16 (d := mkD "goes_of" 20) rfl
  obtain ⟨fd_all_pairs, F_all_pairs⟩ := c.def_ 17 (d := mkD "all_pairs" 21) rfl
  obtain ⟨fd_pairs_behind, F_pairs_behind⟩ := c.def_ 18 (d := mkD "pairs_behind" 22) rfl
  obtain ⟨fd_does_close, F_does_close⟩ := c.def_ 19 (d := mkD "does_close" 23) rfl
  obtain ⟨fd_closing_moves, F_closing_moves⟩ := c.def_ 20 (d := mkD "closing_moves" 24) rfl
  obtain ⟨fd_pairs_closed, F_pairs_closed⟩ := c.def_ 21 (d := mkD "pairs_closed" 25) rfl
  obtain ⟨fd_turns_of, F_turns_of⟩ := c.def_ 22 (d := mkD "turns_of" 26) rfl
  obtain ⟨fd_free_of, F_free_of⟩ := c.def_ 23 (d := mkD "free_of" 27) rfl
  obtain ⟨fd_first_move_by, F_first_move_by⟩ := c.def_ 24 (d := mkD "first_move_by" 28) rfl
  obtain ⟨fd_check_web, F_check_web⟩ := c.def_ 25 (d := mkD "check_web" 34) rfl
  obtain ⟨fd_check_place, F_check_place⟩ := c.def_ 26 (d := mkD "check_place" 35) rfl
  obtain ⟨fd_check_web_place, F_check_web_place⟩ := c.def_ 27 (d := mkD "check_web_place" 36) rfl
  obtain ⟨fd_check_two_places, F_check_two_places⟩ := c.def_ 28 (d := mkD "check_two_places" 37) rfl
  obtain ⟨fd_chase_turns, F_chase_turns⟩ := c.def_ 29 (d := mkD "chase_turns" 39) rfl
  obtain ⟨fd_can_chase, F_can_chase⟩ := c.def_ 30 (d := mkD "can_chase" 40) rfl
  obtain ⟨fd_free_pairs, F_free_pairs⟩ := c.def_ 31 (d := mkD "free_pairs" 41) rfl
  obtain ⟨fd_hunter_move, F_hunter_move⟩ := c.def_ 32 (d := mkD "hunter_move" 42) rfl
  obtain ⟨fd_beside_within, F_beside_within⟩ := c.def_ 33 (d := mkD "beside_within" 44) rfl
  obtain ⟨fd_can_fold_by, F_can_fold_by⟩ := c.def_ 34 (d := mkD "can_fold_by" 45) rfl
  obtain ⟨fd_folds_by, F_folds_by⟩ := c.def_ 35 (d := mkD "folds_by" 46) rfl
  obtain ⟨fd_lot_without, F_lot_without⟩ := c.def_ 36 (d := mkD "lot_without" 47) rfl
  obtain ⟨fd_folded_of, F_folded_of⟩ := c.def_ 37 (d := mkD "folded_of" 48) rfl
  obtain ⟨fd_fold_row, F_fold_row⟩ := c.def_ 38 (d := mkD "fold_row" 50) rfl
  obtain ⟨fd_neighbours, F_neighbours⟩ := c.def_ 39 (d := mkD "neighbours" 52) rfl
  obtain ⟨fd_is_bare, F_is_bare⟩ := c.def_ 40 (d := mkD "is_bare" 53) rfl
  obtain ⟨fd__law_pot, F__law_pot⟩ := c.def_ 41 (d := mkD "_law_pot" 55) rfl
  obtain ⟨fd__law_draw, F__law_draw⟩ := c.def_ 42 (d := mkD "_law_draw" 56) rfl
  obtain ⟨fd__law_pick, F__law_pick⟩ := c.def_ 43 (d := mkD "_law_pick" 57) rfl
  obtain ⟨fd__law_web, F__law_web⟩ := c.def_ 44 (d := mkD "_law_web" 58) rfl
  obtain ⟨fd__law_near, F__law_near⟩ := c.def_ 45 (d := mkD "_law_near" 59) rfl
  obtain ⟨fd__law_goes, F__law_goes⟩ := c.def_ 46 (d := mkD "_law_goes" 60) rfl
  obtain ⟨fd__law_turns, F__law_turns⟩ := c.def_ 47 (d := mkD "_law_turns" 61) rfl
  obtain ⟨fd__law_closes, F__law_closes⟩ := c.def_ 48 (d := mkD "_law_closes" 62) rfl
  obtain ⟨fd__law_hunted, F__law_hunted⟩ := c.def_ 49 (d := mkD "_law_hunted" 63) rfl
  obtain ⟨fd__law_runs, F__law_runs⟩ := c.def_ 50 (d := mkD "_law_runs" 64) rfl
  obtain ⟨fd__law_web_right, F__law_web_right⟩ := c.def_ 51 (d := mkD "_law_web_right" 65) rfl
  obtain ⟨fd__law_right, F__law_right⟩ := c.def_ 52 (d := mkD "_law_right" 66) rfl
  obtain ⟨fd_law, F_law⟩ := c.def_ 53 (d := mkD "law" 67) rfl
  have e := hfa.symm.trans (He.glo_ok X G (c.fact 53 (f := .glo "law") rfl))
  cases e
  have b := FunD.bindsA (ps := ["script"]) F_law fun _ _ _ _ _ _ us hl => match us, hl with | [_], _ => rfl
  refine ⟨fd_law, fun s v => b s [v] rfl, fun base _ _ => ?_⟩
  have C_is_whole : Cal P w K mg base 1 "is_whole" ["value"] d_is_whole := ⟨_, _, ok_is_whole g  F_is_whole, He.glo_ok X G (c.fact 0 (f := .glo "is_whole") rfl), F_is_whole.kp, F_is_whole.bindsN fun _ _ _ _ _ _ us hl => match us, hl with | [_], _ => rfl⟩
  have C_is_between : Cal P w K mg base 2 "is_between" ["value", "low", "high"] d_is_between := ⟨_, _, ok_is_between g C_is_whole F_is_between, He.glo_ok X G (c.fact 1 (f := .glo "is_between") rfl), F_is_between.kp, F_is_between.bindsN fun _ _ _ _ _ _ us hl => match us, hl with | [_, _, _], _ => rfl⟩
  have C_is_tuple_of : Cal P w K mg base 1 "is_tuple_of" ["value", "many"] d_is_tuple_of := ⟨_, _, ok_is_tuple_of g  F_is_tuple_of, He.glo_ok X G (c.fact 2 (f := .glo "is_tuple_of") rfl), F_is_tuple_of.kp, F_is_tuple_of.bindsN fun _ _ _ _ _ _ us hl => match us, hl with | [_, _], _ => rfl⟩
  have C_is_ascending : Cal P w K mg base 1 "is_ascending" ["row"] d_is_ascending := ⟨_, _, ok_is_ascending g  F_is_ascending, He.glo_ok X G (c.fact 3 (f := .glo "is_ascending") rfl), F_is_ascending.kp, F_is_ascending.bindsN fun _ _ _ _ _ _ us hl => match us, hl with | [_], _ => rfl⟩
  have C_is_place_number : Cal P w K mg base 3 "is_place_number" ["value"] d_is_place_number := ⟨_, _, ok_is_place_number g C_is_between F_is_place_number, He.glo_ok X G (c.fact 4 (f := .glo "is_place_number") rfl), F_is_place_number.kp, F_is_place_number.bindsN fun _ _ _ _ _ _ us hl => match us, hl with | [_], _ => rfl⟩
  have C_place_count : Cal P w K mg base 1 "place_count" ["web"] d_place_count := ⟨_, _, ok_place_count g  F_place_count, He.glo_ok X G (c.fact 5 (f := .glo "place_count") rfl), F_place_count.kp, F_place_count.bindsN fun _ _ _ _ _ _ us hl => match us, hl with | [_], _ => rfl⟩
  have C_ties_of : Cal P w K mg base 1 "ties_of" ["web"] d_ties_of := ⟨_, _, ok_ties_of g  F_ties_of, He.glo_ok X G (c.fact 6 (f := .glo "ties_of") rfl), F_ties_of.kp, F_ties_of.bindsN fun _ _ _ _ _ _ us hl => match us, hl with | [_], _ => rfl⟩
  have C_places_of : Cal P w K mg base 1 "places_of" ["web"] d_places_of := ⟨_, _, ok_places_of g  F_places_of, He.glo_ok X G (c.fact 7 (f := .glo "places_of") rfl), F_places_of.kp, F_places_of.bindsN fun _ _ _ _ _ _ us hl => match us, hl with | [_], _ => rfl⟩
  have C_is_place_of : Cal P w K mg base 3 "is_place_of" ["web", "value"] d_is_place_of := ⟨_, _, ok_is_place_of g C_is_between F_is_place_of, He.glo_ok X G (c.fact 8 (f := .glo "is_place_of") rfl), F_is_place_of.kp, F_is_place_of.bindsN fun _ _ _ _ _ _ us hl => match us, hl with | [_, _], _ => rfl⟩
  have C_is_tie_of : Cal P w K mg base 3 "is_tie_of" ["number", "value"] d_is_tie_of := ⟨_, _, ok_is_tie_of g C_is_tuple_of C_is_between F_is_tie_of, He.glo_ok X G (c.fact 9 (f := .glo "is_tie_of") rfl), F_is_tie_of.kp, F_is_tie_of.bindsN fun _ _ _ _ _ _ us hl => match us, hl with | [_, _], _ => rfl⟩
  have C_are_ties : Cal P w K mg base 4 "are_ties" ["number", "value"] d_are_ties := ⟨_, _, ok_are_ties g C_is_tie_of C_is_ascending F_are_ties, He.glo_ok X G (c.fact 10 (f := .glo "are_ties") rfl), F_are_ties.kp, F_are_ties.bindsN fun _ _ _ _ _ _ us hl => match us, hl with | [_, _], _ => rfl⟩
  have C_neighbours_of : Cal P w K mg base 2 "neighbours_of" ["web", "place"] d_neighbours_of := ⟨_, _, ok_neighbours_of g C_ties_of F_neighbours_of, He.glo_ok X G (c.fact 11 (f := .glo "neighbours_of") rfl), F_neighbours_of.kp, F_neighbours_of.bindsN fun _ _ _ _ _ _ us hl => match us, hl with | [_, _], _ => rfl⟩
  have C_part_with : Cal P w K mg base 3 "part_with" ["web", "lot", "place"] d_part_with := ⟨_, _, ok_part_with g C_neighbours_of F_part_with, He.glo_ok X G (c.fact 12 (f := .glo "part_with") rfl), F_part_with.kp, F_part_with.bindsN fun _ _ _ _ _ _ us hl => match us, hl with | [_, _, _], _ => rfl⟩
  have C_hangs_by : Cal P w K mg base 4 "hangs_by" ["web", "lot"] d_hangs_by := ⟨_, _, ok_hangs_by g C_part_with F_hangs_by, He.glo_ok X G (c.fact 13 (f := .glo "hangs_by") rfl), F_hangs_by.kp, F_hangs_by.bindsN fun _ _ _ _ _ _ us hl => match us, hl with | [_, _], _ => rfl⟩
  have C_is_webbed : Cal P w K mg base 5 "is_webbed" ["value"] d_is_webbed := ⟨_, _, ok_is_webbed g C_is_tuple_of C_is_place_number C_are_ties C_hangs_by C_places_of F_is_webbed, He.glo_ok X G (c.fact 14 (f := .glo "is_webbed") rfl), F_is_webbed.kp, F_is_webbed.bindsN fun _ _ _ _ _ _ us hl => match us, hl with | [_], _ => rfl⟩
  have C_is_bare_by : Cal P w K mg base 2 "is_bare_by" ["web"] d_is_bare_by := ⟨_, _, ok_is_bare_by g C_ties_of C_place_count F_is_bare_by, He.glo_ok X G (c.fact 15 (f := .glo "is_bare_by") rfl), F_is_bare_by.kp, F_is_bare_by.bindsN fun _ _ _ _ _ _ us hl => match us, hl with | [_], _ => rfl⟩
  have C_goes_of : Cal P w K mg base 3 "goes_of" ["web", "place"] d_goes_of := ⟨_, _, ok_goes_of g C_neighbours_of F_goes_of, He.glo_ok X G (c.fact 16 (f := .glo "goes_of") rfl), F_goes_of.kp, F_goes_of.bindsN fun _ _ _ _ _ _ us hl => match us, hl with | [_, _], _ => rfl⟩
  have C_all_pairs : Cal P w K mg base 2 "all_pairs" ["web"] d_all_pairs := ⟨_, _, ok_all_pairs g C_places_of F_all_pairs, He.glo_ok X G (c.fact 17 (f := .glo "all_pairs") rfl), F_all_pairs.kp, F_all_pairs.bindsN fun _ _ _ _ _ _ us hl => match us, hl with | [_], _ => rfl⟩
  have C_pairs_behind : Cal P w K mg base 4 "pairs_behind" ["web", "place", "hare"] d_pairs_behind := ⟨_, _, ok_pairs_behind g C_goes_of F_pairs_behind, He.glo_ok X G (c.fact 18 (f := .glo "pairs_behind") rfl), F_pairs_behind.kp, F_pairs_behind.bindsN fun _ _ _ _ _ _ us hl => match us, hl with | [_, _, _], _ => rfl⟩
  have C_does_close : Cal P w K mg base 5 "does_close" ["web", "turns", "place", "hare"] d_does_close := ⟨_, _, ok_does_close g C_pairs_behind F_does_close, He.glo_ok X G (c.fact 19 (f := .glo "does_close") rfl), F_does_close.kp, F_does_close.bindsN fun _ _ _ _ _ _ us hl => match us, hl with | [_, _, _, _], _ => rfl⟩
  have C_closing_moves : Cal P w K mg base 6 "closing_moves" ["web", "turns", "pair"] d_closing_moves := ⟨_, _, ok_closing_moves g C_goes_of C_does_close F_closing_moves, He.glo_ok X G (c.fact 20 (f := .glo "closing_moves") rfl), F_closing_moves.kp, F_closing_moves.bindsN fun _ _ _ _ _ _ us hl => match us, hl with | [_, _, _], _ => rfl⟩
  have C_pairs_closed : Cal P w K mg base 7 "pairs_closed" ["web", "turns"] d_pairs_closed := ⟨_, _, ok_pairs_closed g C_all_pairs C_closing_moves F_pairs_closed, He.glo_ok X G (c.fact 21 (f := .glo "pairs_closed") rfl), F_pairs_closed.kp, F_pairs_closed.bindsN fun _ _ _ _ _ _ us hl => match us, hl with | [_, _], _ => rfl⟩
  have C_turns_of : Cal P w K mg base 8 "turns_of" ["web"] d_turns_of := ⟨_, _, ok_turns_of g C_places_of C_all_pairs C_pairs_closed F_turns_of, He.glo_ok X G (c.fact 22 (f := .glo "turns_of") rfl), F_turns_of.kp, F_turns_of.bindsN fun _ _ _ _ _ _ us hl => match us, hl with | [_], _ => rfl⟩
  have C_free_of : Cal P w K mg base 9 "free_of" ["web"] d_free_of := ⟨_, _, ok_free_of g C_turns_of C_all_pairs F_free_of, He.glo_ok X G (c.fact 23 (f := .glo "free_of") rfl), F_free_of.kp, F_free_of.bindsN fun _ _ _ _ _ _ us hl => match us, hl with | [_], _ => rfl⟩
  have C_first_move_by : Cal P w K mg base 9 "first_move_by" ["web", "pair"] d_first_move_by := ⟨_, _, ok_first_move_by g C_turns_of C_closing_moves F_first_move_by, He.glo_ok X G (c.fact 24 (f := .glo "first_move_by") rfl), F_first_move_by.kp, F_first_move_by.bindsN fun _ _ _ _ _ _ us hl => match us, hl with | [_, _], _ => rfl⟩
  have C_check_web : Cal P w K mg base 6 "check_web" ["web"] d_check_web := ⟨_, _, ok_check_web g C_is_webbed F_check_web, He.glo_ok X G (c.fact 25 (f := .glo "check_web") rfl), F_check_web.kp, F_check_web.bindsN fun _ _ _ _ _ _ us hl => match us, hl with | [_], _ => rfl⟩
  have C_check_place : Cal P w K mg base 4 "check_place" ["web", "place"] d_check_place := ⟨_, _, ok_check_place g C_is_place_of F_check_place, He.glo_ok X G (c.fact 26 (f := .glo "check_place") rfl), F_check_place.kp, F_check_place.bindsN fun _ _ _ _ _ _ us hl => match us, hl with | [_, _], _ => rfl⟩
  have C_check_web_place : Cal P w K mg base 7 "check_web_place" ["web", "place"] d_check_web_place := ⟨_, _, ok_check_web_place g C_check_web C_check_place F_check_web_place, He.glo_ok X G (c.fact 27 (f := .glo "check_web_place") rfl), F_check_web_place.kp, F_check_web_place.bindsN fun _ _ _ _ _ _ us hl => match us, hl with | [_, _], _ => rfl⟩
  have C_check_two_places : Cal P w K mg base 8 "check_two_places" ["web", "place", "other_place"] d_check_two_places := ⟨_, _, ok_check_two_places g C_check_web_place C_check_place F_check_two_places, He.glo_ok X G (c.fact 28 (f := .glo "check_two_places") rfl), F_check_two_places.kp, F_check_two_places.bindsN fun _ _ _ _ _ _ us hl => match us, hl with | [_, _, _], _ => rfl⟩
  have C_chase_turns : Cal P w K mg base 9 "chase_turns" ["web", "place", "other_place"] d_chase_turns := ⟨_, _, ok_chase_turns g C_check_two_places C_turns_of F_chase_turns, He.glo_ok X G (c.fact 29 (f := .glo "chase_turns") rfl), F_chase_turns.kp, F_chase_turns.bindsN fun _ _ _ _ _ _ us hl => match us, hl with | [_, _, _], _ => rfl⟩
  have C_can_chase : Cal P w K mg base 10 "can_chase" ["web"] d_can_chase := ⟨_, _, ok_can_chase g C_check_web C_free_of F_can_chase, He.glo_ok X G (c.fact 30 (f := .glo "can_chase") rfl), F_can_chase.kp, F_can_chase.bindsN fun _ _ _ _ _ _ us hl => match us, hl with | [_], _ => rfl⟩
  have C_free_pairs : Cal P w K mg base 10 "free_pairs" ["web"] d_free_pairs := ⟨_, _, ok_free_pairs g C_check_web C_free_of F_free_pairs, He.glo_ok X G (c.fact 31 (f := .glo "free_pairs") rfl), F_free_pairs.kp, F_free_pairs.bindsN fun _ _ _ _ _ _ us hl => match us, hl with | [_], _ => rfl⟩
  have C_hunter_move : Cal P w K mg base 10 "hunter_move" ["web", "place", "other_place"] d_hunter_move := ⟨_, _, ok_hunter_move g C_check_two_places C_first_move_by F_hunter_move, He.glo_ok X G (c.fact 32 (f := .glo "hunter_move") rfl), F_hunter_move.kp, F_hunter_move.bindsN fun _ _ _ _ _ _ us hl => match us, hl with | [_, _, _], _ => rfl⟩
  have C_beside_within : Cal P w K mg base 4 "beside_within" ["web", "lot", "place"] d_beside_within := ⟨_, _, ok_beside_within g C_goes_of F_beside_within, He.glo_ok X G (c.fact 33 (f := .glo "beside_within") rfl), F_beside_within.kp, F_beside_within.bindsN fun _ _ _ _ _ _ us hl => match us, hl with | [_, _, _], _ => rfl⟩
  have C_can_fold_by : Cal P w K mg base 5 "can_fold_by" ["web", "lot", "place", "onto"] d_can_fold_by := ⟨_, _, ok_can_fold_by g C_beside_within C_goes_of F_can_fold_by, He.glo_ok X G (c.fact 34 (f := .glo "can_fold_by") rfl), F_can_fold_by.kp, F_can_fold_by.bindsN fun _ _ _ _ _ _ us hl => match us, hl with | [_, _, _, _], _ => rfl⟩
  have C_folds_by : Cal P w K mg base 6 "folds_by" ["web", "lot"] d_folds_by := ⟨_, _, ok_folds_by g C_can_fold_by F_folds_by, He.glo_ok X G (c.fact 35 (f := .glo "folds_by") rfl), F_folds_by.kp, F_folds_by.bindsN fun _ _ _ _ _ _ us hl => match us, hl with | [_, _], _ => rfl⟩
  have C_lot_without : Cal P w K mg base 1 "lot_without" ["lot", "place"] d_lot_without := ⟨_, _, ok_lot_without g  F_lot_without, He.glo_ok X G (c.fact 36 (f := .glo "lot_without") rfl), F_lot_without.kp, F_lot_without.bindsN fun _ _ _ _ _ _ us hl => match us, hl with | [_, _], _ => rfl⟩
  have C_folded_of : Cal P w K mg base 7 "folded_of" ["web"] d_folded_of := ⟨_, _, ok_folded_of g C_places_of C_folds_by C_lot_without F_folded_of, He.glo_ok X G (c.fact 37 (f := .glo "folded_of") rfl), F_folded_of.kp, F_folded_of.bindsN fun _ _ _ _ _ _ us hl => match us, hl with | [_], _ => rfl⟩
  have C_fold_row : Cal P w K mg base 8 "fold_row" ["web"] d_fold_row := ⟨_, _, ok_fold_row g C_check_web C_folded_of F_fold_row, He.glo_ok X G (c.fact 38 (f := .glo "fold_row") rfl), F_fold_row.kp, F_fold_row.bindsN fun _ _ _ _ _ _ us hl => match us, hl with | [_], _ => rfl⟩
  have C_neighbours : Cal P w K mg base 8 "neighbours" ["web", "place"] d_neighbours := ⟨_, _, ok_neighbours g C_check_web_place C_neighbours_of F_neighbours, He.glo_ok X G (c.fact 39 (f := .glo "neighbours") rfl), F_neighbours.kp, F_neighbours.bindsN fun _ _ _ _ _ _ us hl => match us, hl with | [_, _], _ => rfl⟩
  have C_is_bare : Cal P w K mg base 7 "is_bare" ["web"] d_is_bare := ⟨_, _, ok_is_bare g C_check_web C_is_bare_by F_is_bare, He.glo_ok X G (c.fact 40 (f := .glo "is_bare") rfl), F_is_bare.kp, F_is_bare.bindsN fun _ _ _ _ _ _ us hl => match us, hl with | [_], _ => rfl⟩
  have C__law_pot : Cal P w K mg base 1 "_law_pot" ["script", "turn"] d__law_pot := ⟨_, _, ok__law_pot g  F__law_pot, He.glo_ok X G (c.fact 41 (f := .glo "_law_pot") rfl), F__law_pot.kp, F__law_pot.bindsN fun _ _ _ _ _ _ us hl => match us, hl with | [_, _], _ => rfl⟩
  have C__law_draw : Cal P w K mg base 1 "_law_draw" ["pot", "many"] d__law_draw := ⟨_, _, ok__law_draw g  F__law_draw, He.glo_ok X G (c.fact 42 (f := .glo "_law_draw") rfl), F__law_draw.kp, F__law_draw.bindsN fun _ _ _ _ _ _ us hl => match us, hl with | [_, _], _ => rfl⟩
  have C__law_pick : Cal P w K mg base 2 "_law_pick" ["pot", "some"] d__law_pick := ⟨_, _, ok__law_pick g C__law_draw F__law_pick, He.glo_ok X G (c.fact 43 (f := .glo "_law_pick") rfl), F__law_pick.kp, F__law_pick.bindsN fun _ _ _ _ _ _ us hl => match us, hl with | [_, _], _ => rfl⟩
  have C__law_web : Cal P w K mg base 2 "_law_web" ["pot", "many"] d__law_web := ⟨_, _, ok__law_web g C__law_draw F__law_web, He.glo_ok X G (c.fact 44 (f := .glo "_law_web") rfl), F__law_web.kp, F__law_web.bindsN fun _ _ _ _ _ _ us hl => match us, hl with | [_, _], _ => rfl⟩
  have C__law_near : Cal P w K mg base 1 "_law_near" ["web", "place"] d__law_near := ⟨_, _, ok__law_near g  F__law_near, He.glo_ok X G (c.fact 45 (f := .glo "_law_near") rfl), F__law_near.kp, F__law_near.bindsN fun _ _ _ _ _ _ us hl => match us, hl with | [_, _], _ => rfl⟩
  have C__law_goes : Cal P w K mg base 2 "_law_goes" ["web", "place"] d__law_goes := ⟨_, _, ok__law_goes g C__law_near F__law_goes, He.glo_ok X G (c.fact 46 (f := .glo "_law_goes") rfl), F__law_goes.kp, F__law_goes.bindsN fun _ _ _ _ _ _ us hl => match us, hl with | [_, _], _ => rfl⟩
  have C__law_closes : Cal P w K mg base 3 "_law_closes" ["web", "pair", "told", "number"] d__law_closes := ⟨_, _, ok__law_closes g C__law_goes F__law_closes, He.glo_ok X G (c.fact 48 (f := .glo "_law_closes") rfl), F__law_closes.kp, F__law_closes.bindsN fun _ _ _ _ _ _ us hl => match us, hl with | [_, _, _, _], _ => rfl⟩
  have C__law_turns : Cal P w K mg base 4 "_law_turns" ["web"] d__law_turns := ⟨_, _, ok__law_turns g C__law_closes F__law_turns, He.glo_ok X G (c.fact 47 (f := .glo "_law_turns") rfl), F__law_turns.kp, F__law_turns.bindsN fun _ _ _ _ _ _ us hl => match us, hl with | [_], _ => rfl⟩
  have C__law_hunted : Cal P w K mg base 11 "_law_hunted" ["pot", "web", "one", "other", "told", "is_hard"] d__law_hunted := ⟨_, _, ok__law_hunted g C_hunter_move C_neighbours C__law_goes C__law_pick F__law_hunted, He.glo_ok X G (c.fact 49 (f := .glo "_law_hunted") rfl), F__law_hunted.kp, F__law_hunted.bindsN fun _ _ _ _ _ _ us hl => match us, hl with | [_, _, _, _, _, _], _ => rfl⟩
  have C__law_runs : Cal P w K mg base 11 "_law_runs" ["pot", "web", "one", "other"] d__law_runs := ⟨_, _, ok__law_runs g C_free_pairs C__law_pick C__law_goes C_neighbours C_chase_turns F__law_runs, He.glo_ok X G (c.fact 50 (f := .glo "_law_runs") rfl), F__law_runs.kp, F__law_runs.bindsN fun _ _ _ _ _ _ us hl => match us, hl with | [_, _, _, _], _ => rfl⟩
  have C__law_web_right : Cal P w K mg base 12 "_law_web_right" ["pot"] d__law_web_right := ⟨_, _, ok__law_web_right g C__law_web C__law_draw C__law_turns C_chase_turns C__law_runs C__law_hunted C_is_bare C_can_chase C_fold_row C_free_pairs F__law_web_right, He.glo_ok X G (c.fact 51 (f := .glo "_law_web_right") rfl), F__law_web_right.kp, F__law_web_right.bindsN fun _ _ _ _ _ _ us hl => match us, hl with | [_], _ => rfl⟩
  have C__law_right : Cal P w K mg base 13 "_law_right" ["pot"] d__law_right := ⟨_, _, ok__law_right g C__law_web_right F__law_right, He.glo_ok X G (c.fact 52 (f := .glo "_law_right") rfl), F__law_right.kp, F__law_right.bindsN fun _ _ _ _ _ _ us hl => match us, hl with | [_], _ => rfl⟩
  exact ok_law g C__law_right C__law_pot F_law
abbrev R : PySem.W.OpenRow := PySem.W.OpenLaw.row PySem.Challenge.rw_nesthunts_k52_whole_chases_played
abbrev hk : PySem.W.Hook := He.hookD 4 fa fn
def ob (s : PySem.W.SharedT) : He.AlD := He.obsDG 4 fa fn (HandSHeadRun.getT s)
theorem ob_eq (s : PySem.W.SharedT) : ob s = hk.obs s.abs := He.obsDG_eq (HandSHeadRun.getT_eq s)
theorem run (w : World) : HandSHeadRun.RunEq R (PySem.W.view R.prog [67]) hk ob 4000 names w := by
  intro os
  kernel_rfl
end HK

open PySem PySem.W PySem.Calls PyProof.Rows
theorem PySem.Challenge.cw_nesthunts_k52_whole_chases_played_holds : PySem.Challenge.rw_nesthunts_k52_whole_chases_played.Holds := by
  w_on; o_law
  refine HandSHeadRun.head_any (r := OpenLaw.row PySem.Challenge.rw_nesthunts_k52_whole_chases_played) (q := view (OpenLaw.row PySem.Challenge.rw_nesthunts_k52_whole_chases_played).prog [67]) (H := HK.hk) (ob := HK.ob) (M := 4000) (loose := HK.names) (d := HandSHeadRun.topDef (OpenLaw.row PySem.Challenge.rw_nesthunts_k52_whole_chases_played).prog 67) (kwd := []) HK.ob_eq
    (by kernel_rfl) (fun s => by kernel_rfl) HK.run (by kernel_rfl) (by kernel_rfl) (by kernel_rfl) (by rfl) (by first | assumption | decide +kernel) (by decide +kernel) ⟨rfl, rfl, rfl, rfl, rfl, by decide +kernel⟩ ?hw ?hc
  case hw => w_witness2
  case hc =>
    refine L2.walk_ofE (l := PySem.Challenge.rw_nesthunts_k52_whole_chases_played) (n := 63) (k := 14) (x := "script") (CX := L2.CX0) rfl (by decide) (by kernel_rfl) ⟨rfl, by decide, by decide⟩ ?F (fun _ _ _ _ z => z)
    intro w mg fa h Y G hmg0
    obtain ⟨K, KX, c⟩ := Y
    have hmg : mg ("law" : PySem.Str) = some (.ref fa) := by
      have e : (HandSHeadRun.topDef (OpenLaw.row PySem.Challenge.rw_nesthunts_k52_whole_chases_played).prog 67).name = ("law" : PySem.Str) := by kernel_rfl
      rw [← e]
      exact hmg0
    obtain ⟨fd, hb, hF⟩ := HK.facts (P := (PySem.Challenge.rw_nesthunts_k52_whole_chases_played).prog) (w := w) KX G hmg c
    exact ⟨K, fd, PV.spP K HK.d_law, KX, hb, fun H a ns hl _ hS => PV.law_sp (Nat.le_trans hl (by decide)) hS (HK.plain ns hl), hF⟩
