import PyProof.Rows.All
import Wide.All
import OpenK.AllK
import Wide.FinOn
import HandS.Base
import HandS.Call
import HandS.List
import HandS.Dict
import HandS.Text
import HandS.Iter
import HandS.More
import HandS.Exc
import HandS.Flow
import HandS.Comp
import HandS.Style
import HandS.RaiseMore
import HandS.Conv
import HandS.WordsExc
import HandS.FStr
import HandS.CallSlots
import HandS.ExcField
import HandS.Head0
import HandS.Head1
import HandS.Head2
import HandS.HeadEnd
import HandS.HeadHook1
import HandS.HeadHook2
import HandS.HeadHook3
import HandS.Defaults
import PySem.Challenge.RW_spoorfold_k78_rows_that_a_desk_knows_not
import HandS.Ends
import HandS.Words
import HandS.ExcOwn
import HandS.CallLocal
import HandS.IsInst
import HandS.Walk
import HandS.Zip
import KE.KUnpackStar
import HandS.DictComp
import HandS.TryMany
import HandS.Small
import HandS.ExcInit
import HandS.ClsMeth
import KE.KExcInit
import PyProof.ExcBaseAll.LookupError
import KE.KStateDown
import PyProof.ExcBaseAll.ValueError
section
set_option Elab.async false
set_option linter.all false
set_option maxRecDepth 100000
/-! Mp: a small evaluator. Values are trees; what changes stands at a location of a store. -/
namespace Mp
open PySem L2

/-- values: trees; ref l: the thing at the location l -/
inductive D where
  | non
  | bl (b : Bool)
  | int (i : Int)
  | str (s : Str)
  | tup (xs : List D)
  | lst (xs : List D)
  | dct (kvs : List (Key × D))
  | obj (C : Str) (fs : List (Str × D))
  | ref (l : Nat)
  | fn (x : Str)
  | scr (ns : List Int)
  | wd (fs : List (Str × D))
  deriving Inhabited

/-- what stands at a location -/
inductive Ob where
  | lst (xs : List D)
  | dk (kvs : List (Key × D))
  | dt (kvs : List (List Key × D))
  | ins (C : Str) (fs : List (Str × D))
  deriving Inhabited

abbrev Sto := List Ob
abbrev Env := List (Option D)
structure Ex where
  cls : Str
  fs : List (Str × D)
inductive R (α : Type) where
  | ok (a : α)
  | ex (x : Ex)
abbrev M (α : Type) := Sto → Option (R α × Sto)
@[inline] def M.ok {α : Type} (a : α) : M α := fun s => some (.ok a, s)
@[inline] def M.no {α : Type} : M α := fun _ => none
@[inline] def M.bind {α β : Type} (m : M α) (f : α → M β) : M β := fun s => match m s with
  | none => none
  | some (.ok a, s') => f a s'
  | some (.ex x, s') => some (.ex x, s')
@[inline] def M.lift {α : Type} : Option α → M α
  | some a => M.ok a
  | none => M.no

mutual
def D.deq : D → D → Bool
  | .non => fun y => match y with
    | .non => true
    | _ => false
  | .bl a => fun y => match y with
    | .bl b => a == b
    | _ => false
  | .int a => fun y => match y with
    | .int b => decide (a = b)
    | _ => false
  | .str a => fun y => match y with
    | .str b => decide (a = b)
    | _ => false
  | .tup a => fun y => match y with
    | .tup b => D.deqs a b
    | _ => false
  | .lst a => fun y => match y with
    | .lst b => D.deqs a b
    | _ => false
  | .dct a => fun y => match y with
    | .dct b => D.deqk a b
    | _ => false
  | .obj c a => fun y => match y with
    | .obj d b => decide (c = d) && D.deqf a b
    | _ => false
  | .ref a => fun y => match y with
    | .ref b => a == b
    | _ => false
  | .fn a => fun y => match y with
    | .fn b => decide (a = b)
    | _ => false
  | .scr _ => fun _ => false
  | .wd _ => fun _ => false
def D.deqs : List D → List D → Bool
  | [] => fun y => match y with
    | [] => true
    | _ => false
  | a :: r => fun y => match y with
    | b :: t => D.deq a b && D.deqs r t
    | _ => false
def D.deqk : List (Key × D) → List (Key × D) → Bool
  | [] => fun y => match y with
    | [] => true
    | _ => false
  | (k, a) :: r => fun y => match y with
    | (j, b) :: t => decide (k = j) && (D.deq a b && D.deqk r t)
    | _ => false
def D.deqf : List (Str × D) → List (Str × D) → Bool
  | [] => fun y => match y with
    | [] => true
    | _ => false
  | (k, a) :: r => fun y => match y with
    | (j, b) :: t => decide (k = j) && (D.deq a b && D.deqf r t)
    | _ => false
end
mutual
/-- no location from n on is named -/
def D.cl (n : Nat) : D → Bool
  | .tup xs => D.cls n xs
  | .lst xs => D.cls n xs
  | .dct kvs => D.clk n kvs
  | .obj _ fs => D.clf n fs
  | .wd fs => D.clf n fs
  | .ref l => decide (l < n)
  | _ => true
def D.cls (n : Nat) : List D → Bool
  | [] => true
  | x :: r => D.cl n x && D.cls n r
def D.clk (n : Nat) : List (Key × D) → Bool
  | [] => true
  | (_, x) :: r => D.cl n x && D.clk n r
def D.clf (n : Nat) : List (Str × D) → Bool
  | [] => true
  | (_, x) :: r => D.cl n x && D.clf n r
end
def clt (n : Nat) : List (List Key × D) → Bool
  | [] => true
  | (_, x) :: r => D.cl n x && clt n r
def Ob.cl (n : Nat) : Ob → Bool
  | .lst xs => D.cls n xs
  | .dk kvs => D.clk n kvs
  | .dt kvs => clt n kvs
  | .ins _ fs => D.clf n fs
mutual
/-- what is handed out by value: a location is told by g -/
def D.fz (g : Nat → Option D) : D → Option D
  | .tup xs => (D.fzs g xs).map D.tup
  | .lst xs => (D.fzs g xs).map D.lst
  | .dct kvs => (D.fzk g kvs).map D.dct
  | .obj C fs => (D.fzf g fs).map (D.obj C)
  | .ref l => g l
  | .wd _ => none
  | d => some d
def D.fzs (g : Nat → Option D) : List D → Option (List D)
  | [] => some []
  | x :: r => match D.fz g x, D.fzs g r with
    | some y, some t => some (y :: t)
    | _, _ => none
def D.fzk (g : Nat → Option D) : List (Key × D) → Option (List (Key × D))
  | [] => some []
  | (k, x) :: r => match D.fz g x, D.fzk g r with
    | some y, some t => some ((k, y) :: t)
    | _, _ => none
def D.fzf (g : Nat → Option D) : List (Str × D) → Option (List (Str × D))
  | [] => some []
  | (k, x) :: r => match D.fz g x, D.fzf g r with
    | some y, some t => some ((k, y) :: t)
    | _, _ => none
end
/-- a location from n on: what stands there, by value -/
def fzR (st : Sto) (n : Nat) : Nat → Nat → Option D
  | 0, _ => none
  | k + 1, l => match decide (l < n) with
    | true => some (.ref l)
    | false => match st[l]? with
      | some (.lst xs) => (D.fzs (fzR st n k) xs).map D.lst
      | some (.dk kvs) => (D.fzk (fzR st n k) kvs).map D.dct
      | some (.ins C fs) => (D.fzf (fzR st n k) fs).map (D.obj C)
      | _ => none
/-- the value by value, the store as long as it was: where nothing that stood names what is new -/
def freeze (n : Nat) (d : D) : M D := fun st => match (st.take n).all (Ob.cl n) with
  | true => match D.fz (fzR st n 12) d with
    | some d' => some (.ok d', st.take n)
    | none => none
  | false => none
end Mp
end
section
set_option Elab.async false
set_option linter.all false
set_option maxRecDepth 100000
/-! Mp: what expressions and statements do. -/
namespace Mp
open PySem L2

inductive BOp where
  | add | sub | mul | fdiv | mod | pow
  deriving DecidableEq
inductive COp where
  | eq | ne | lt | le | gt | ge | isin | notin | is_ | isnot
  deriving DecidableEq
/-- built-ins of one argument -/
inductive Bl where
  | len | str | int | all | any | tuple
  deriving DecidableEq
inductive Bm0 where
  | lpop | lclear | lower | upper
  deriving DecidableEq
inductive Bm1 where
  | append | lpop | dpop | split | join | find | startswith | endswith
  deriving DecidableEq
/-- types that are asked for -/
inductive Ty where
  | none | bool | int | str | tuple | list
  deriving DecidableEq
/-- targets -/
inductive Tg where
  | nm (i : Nat)
  | tp (ts : List Tg)
  | hd (i j : Nat)      -- a, *b
  | tl (j i : Nat)      -- *b, a
mutual
/-- expressions -/
inductive PX where
  | hole
  | var (i : Nat)
  | cst (d : D)
  | glob (x : Str)
  | bop (o : BOp) (a b : PX)
  | cmp (o : COp) (a b : PX)
  | chn (o p : COp) (a b c : PX)
  | and_ (a b : PX)
  | or_ (a b : PX)
  | not_ (a : PX)
  | neg (a : PX)
  | ife (c a b : PX)
  | tup (es : List PX)
  | val (f : PF)
  | loc (f : PF)
  | frz (e : PX)
  | item (a i : PX)
  | slc (a lo hi : PX)
  | rev (a : PX)
  | fld (a : PX) (f : Str)
  | call (f : Str) (es : List PX) (ds : List D)
  | meth (C : Str) (o : PX) (m : Str) (es : List PX) (ds : List D)
  | make (C : Str) (es : List PX) (ds : List D)
  | callv (i : Nat) (es : List PX)
  | blt (b : Bl) (e : PX)
  | isi (e : PX) (ts : List Ty)
  | bm0 (m : Bm0) (o : PX)
  | bm1 (m : Bm1) (o e : PX)
  | fmt (es : List PX)
  | errf (i : Nat) (f : Str)
/-- what makes a new list or dict -/
inductive PF where
  | lst (es : List PX)
  | dsp (ks : List Key) (es : List PX)
  | list (e : PX)
  | srt (e : PX)
  | dict (e : PX)
  | lc (own : List Nat) (src : PSrc) (tg : Tg) (cs : List PX) (e : PX)
  | dc (own : List Nat) (src : PSrc) (tg : Tg) (cs : List PX) (k e : PX)
/-- what a for walks -/
inductive PSrc where
  | val (e : PX)
  | enum (e : PX)
  | items (e : PX)
  | zip (a b : PX)
  | rng (es : List PX)
end
/-- none: what is not reached -/
abbrev PX.nop : PX := .cst .non

/-! ### looks -/
def lstX (st : Sto) : D → Option (List D)
  | .lst xs => some xs
  | .ref l => (match st[l]? with
    | some (.lst xs) => some xs
    | _ => none)
  | _ => none
def lstOf (st : Sto) : D → Option (List D)
  | .scr ns => some (ns.map D.int)
  | .lst xs => some xs
  | .ref l => (match st[l]? with
    | some (.lst xs) => some xs
    | _ => none)
  | _ => none
def dctOf (st : Sto) : D → Option (List (Key × D))
  | .dct kvs => some kvs
  | .ref l => (match st[l]? with
    | some (.dk kvs) => some kvs
    | _ => none)
  | _ => none
def objOf (st : Sto) : D → Option (Str × List (Str × D))
  | .obj C fs => some (C, fs)
  | .ref l => (match st[l]? with
    | some (.ins C fs) => some (C, fs)
    | _ => none)
  | _ => none
def keyOf : D → Option Key
  | .int i => some (.inl i)
  | .str s => some (.inr s)
  | _ => none
def keyD : Key → D
  | .inl i => .int i
  | .inr s => .str s
def keysOf : List D → Option (List Key)
  | [] => some []
  | d :: r => match keyOf d, keysOf r with
    | some k, some t => some (k :: t)
    | _, _ => none
def getD' {κ : Type} [DecidableEq κ] (k : κ) : List (κ × D) → Option D
  | [] => none
  | (j, d) :: r => if j = k then some d else getD' k r
def hasD {κ : Type} [DecidableEq κ] (k : κ) (l : List (κ × D)) : Bool := (getD' k l).isSome
def setF {κ : Type} [DecidableEq κ] (k : κ) (v : D) : List (κ × D) → List (κ × D)
  | [] => [(k, v)]
  | (j, d) :: r => if j = k then (j, v) :: r else (j, d) :: setF k v r
def setD {κ : Type} [DecidableEq κ] (k : κ) (v : D) (l : List (κ × D)) : List (κ × D) := if (l.any fun p => decide (p.1 = k)) = true then l.map (fun p => if p.1 = k then (p.1, v) else p) else l ++ [(k, v)]
def delD {κ : Type} [DecidableEq κ] (k : κ) : List (κ × D) → List (κ × D)
  | [] => []
  | (j, d) :: r => if j = k then delD k r else (j, d) :: delD k r
/-- data without locations -/
def pd : D → Option PyData
  | .non => some .none
  | .bl b => some (.bool b)
  | .int i => some (.int i)
  | .str s => some (.str s)
  | .tup xs => (pds xs).map .tuple
  | .lst xs => (pds xs).map .list
  | _ => none
where pds : List D → Option (List PyData)
  | [] => some []
  | x :: r => match pd x, pds r with
    | some y, some t => some (y :: t)
    | _, _ => none
/-- .. a list at a location by what it holds -/
def pdT (st : Sto) (d : D) : Option PyData := match lstOf st d with
  | some xs => pd (.lst xs)
  | none => pd d
def truth (st : Sto) (d : D) : Option Bool := match d with
  | .non => some false
  | .bl b => some b
  | .int i => some (i != 0)
  | .str s => if s.length ≤ 16777216 then some ((s.length : Int) != 0) else none
  | .tup xs => some (!xs.isEmpty)
  | .lst xs => some (!xs.isEmpty)
  | .ref l => (match st[l]? with
    | some (.lst xs) => some (!xs.isEmpty)
    | some (.dk kvs) => some (!kvs.isEmpty)
    | _ => none)
  | _ => none
def isFlat : D → Bool
  | .non => true
  | .bl _ => true
  | .int _ => true
  | .str _ => true
  | _ => false
def eqF : D → D → Bool
  | .non, .non => true
  | .bl a, .bl b => a == b
  | .bl a, .int b => (if a then 1 else 0) == b
  | .int a, .bl b => a == (if b then 1 else 0)
  | .int a, .int b => a == b
  | .str a, .str b => a == b
  | _, _ => false
def inF (x : D) (xs : List D) : Bool := xs.any fun y => eqF y x
def cutD {α : Type} (xs : List α) (lo hi : Option Int) : List α := (xs.drop (HT.sIx xs.length 0 lo)).take (HT.sIx xs.length xs.length hi - HT.sIx xs.length 0 lo)
def seqOf (st : Sto) (d : D) : Option (List D) := match d with
  | .tup xs => some xs
  | d => lstOf st d

/-! ### operations -/
def catD (st : Sto) (x y : D) : Option D := match lstX st x, lstX st y with
  | some xs, some ys => if xs.length + ys.length ≤ 16777216 then some (.lst (xs ++ ys)) else none
  | _, _ => none
def addD (st : Sto) (x y : D) : Option D := match x with
  | .int i => (match y with
    | .int j => some (.int (i + j))
    | _ => none)
  | .str i => (match y with
    | .str j => if i.length + j.length ≤ 16777216 then some (.str (i ++ j)) else none
    | _ => none)
  | x => catD st x y
def intD (f : Int → Int → Option D) (x y : D) : Option D := match x with
  | .int i => (match y with
    | .int j => f i j
    | _ => none)
  | _ => none
def bopD (o : BOp) (st : Sto) (x y : D) : Option D := match o with
  | .add => addD st x y
  | .sub => intD (fun i j => some (.int (i - j))) x y
  | .mul => intD (fun i j => if (-(2 ^ 64) < i ∧ i < 2 ^ 64) ∨ (-(2 ^ 64) < j ∧ j < 2 ^ 64) then some (.int (i * j)) else none) x y
  | .fdiv => intD (fun i j => if 0 < j ∧ j < 1073741824 then some (.int (i / j)) else none) x y
  | .mod => intD (fun i j => if 0 < j then some (.int (i % j)) else none) x y
  | .pow => intD (fun i j => if 0 ≤ j ∧ j ≤ 1000000 ∧ i.natAbs < 18446744073709551616 then some (.int (i ^ j.toNat)) else none) x y
/-- i in z: one sign, or any text -/
def inStr (z i : Str) : Bool := match i.cps.toList with
  | [c] => decide (c ∈ z.cps.toList)
  | _ => !(Builtin.Str.occurrences z i 0 z.length 1).isEmpty
def isNon : D → Bool
  | .non => true
  | _ => false
/-- flat things that are compared by value -/
def scalD : D → D → Bool
  | .non, .non => true | .non, .int _ => true | .int _, .non => true | .non, .bl _ => true | .bl _, .non => true | .non, .str _ => true | .str _, .non => true
  | .int _, .int _ => true | .bl _, .bl _ => true | .str _, .str _ => true
  | .int _, .str _ => true | .str _, .int _ => true | .bl _, .str _ => true | .str _, .bl _ => true
  | _, _ => false
def eqS : D → D → Bool
  | .non, .non => true
  | .int i, .int j => decide (i = j)
  | .bl i, .bl j => decide (i = j)
  | .str i, .str j => decide (i = j)
  | _, _ => false
def eqD (st : Sto) (x y : D) : Option Bool := match scalD x y with
  | true => some (eqS x y)
  | false => (match pdT st x, pdT st y with
    | some d, some e => if SeqAt.shaped d = true ∧ SeqAt.shaped e = true then some (PyData.eqv d e) else none
    | _, _ => none)
def cmpD (o : COp) (st : Sto) (x y : D) : Option Bool := match o with
  | .eq => eqD st x y
  | .ne => (eqD st x y).map fun b => !b
  | .lt => (match x, y with
    | .int i, .int j => some (decide (i < j))
    | .str i, .str j => some (decide (i.cps.toList < j.cps.toList))
    | _, _ => none)
  | .le => (match x, y with
    | .int i, .int j => some (decide (i ≤ j))
    | _, _ => none)
  | .gt => (match x, y with
    | .int i, .int j => some (decide (j < i))
    | _, _ => none)
  | .ge => (match x, y with
    | .int i, .int j => some (decide (j ≤ i))
    | _, _ => none)
  | .isin => isin st x y
  | .notin => (isin st x y).map fun b => !b
  | .is_ => if isNon y = true then some (isNon x) else none
  | .isnot => if isNon y = true then some (!isNon x) else none
where isin (st : Sto) (x y : D) : Option Bool := match y with
  | .str z => (match x with
    | .str i => some (inStr z i)
    | _ => none)
  | .wd fs => (match x with
    | .str z => some (hasD z fs)
    | _ => none)
  | y => (match seqOf st y with
    | some xs => if isFlat x = true ∧ xs.all isFlat = true then some (inF x xs) else none
    | none => (match dctOf st y, keyOf x with
      | some kvs, some k => some (hasD k kvs)
      | _, _ => none))
def itemD (st : Sto) (x i : D) : Option D := match i with
  | .int n => (match x with
    | .str z => if z.length ≤ 16777216 then (atI z.cps.toList n).map fun c => D.str ⟨#[c]⟩ else none
    | x => (match seqOf st x with
      | some xs => atI xs n
      | none => (dctOf st x).bind fun kvs => getD' (.inl n) kvs))
  | .str s => (match x with
    | .wd fs => getD' s fs
    | x => (dctOf st x).bind fun kvs => getD' (.inr s) kvs)
  | _ => none
def slcD (st : Sto) (x : D) (lo hi : Option Int) : Option D := match x with
  | .str z => if z.length ≤ 16777216 then some (.str (cutS z lo hi)) else none
  | .scr ns => some (.scr (cutD ns lo hi))
  | x => (lstOf st x).map fun xs => .lst (cutD xs lo hi)
/-- what a for walks, by items -/
def itemsOf (st : Sto) (d : D) : Option (List D) := match d with
  | .str z => some (z.cps.toList.map fun c => D.str ⟨#[c]⟩)
  | .dct kvs => some (kvs.map fun p => keyD p.1)
  | d => seqOf st d
/-- a list at a location is as it was -/
def heldD (d : D) (xs : List D) (st : Sto) : Bool := match d with
  | .ref l => (match st[l]? with
    | some (.lst ys) => D.deqs ys xs
    | _ => false)
  | _ => true
def enumD : Nat → List D → List D
  | _, [] => []
  | n, x :: xs => .tup [.int n, x] :: enumD (n + 1) xs
def zipD : List D → List D → List D
  | x :: xs, y :: ys => .tup [x, y] :: zipD xs ys
  | _, _ => []
def strsOf : List D → Option (List Str)
  | [] => some []
  | .str s :: r => (strsOf r).map (s :: ·)
  | _ :: _ => none
def boolsOf : List D → Option (List Bool)
  | [] => some []
  | .bl s :: r => (boolsOf r).map (s :: ·)
  | _ :: _ => none
/-- built-ins -/
def bltD (b : Bl) (st : Sto) (x : D) : Option D := match b with
  | .len => (match x with
    | .str z => if z.length ≤ 16777216 then some (.int z.length) else none
    | x => (match seqOf st x with
      | some ys => some (.int ys.length)
      | none => (dctOf st x).map fun kvs => .int kvs.length))
  | .str => (match x with
    | .int i => if i.natAbs.log2 < 1920 then some (.str (toString i)) else none
    | .str s => some (.str s)
    | _ => none)
  | .int => (match x with
    | .str s => if s.length ≤ 640 then (PySem.intText? s).map D.int else none
    | .int i => some (.int i)
    | .bl b => some (.int (if b = true then 1 else 0))
    | _ => none)
  | .tuple => (seqOf st x).map D.tup
  | .all => ((lstOf st x).bind boolsOf).map fun bs => .bl (bs.all id)
  | .any => ((lstOf st x).bind boolsOf).map fun bs => .bl (bs.any id)
/-- list(x) -/
def listD (st : Sto) (x : D) : Option (List D) := match seqOf st x with
  | some ys => some ys
  | none => (dctOf st x).map fun kvs => kvs.map fun p => keyD p.1
def listR (st : Sto) : D → Option D
  | .scr ns => some (.scr ns)
  | x => (listD st x).map D.lst
/-- sorted(x): of texts, of ints -/
def intsOf : List D → Option (List Int)
  | [] => some []
  | .int s :: r => (intsOf r).map (s :: ·)
  | _ :: _ => none
/-- isinstance -/
def tyOf (st : Sto) : D → Option Ty
  | .non => some .none
  | .bl _ => some .bool
  | .int _ => some .int
  | .str _ => some .str
  | .tup _ => some .tuple
  | .lst _ => some .list
  | .scr _ => some .list
  | .ref l => (match st[l]? with
    | some (.lst _) => some .list
    | _ => none)
  | _ => none
def Ty.sub (a b : Ty) : Bool := decide (a = b) || (decide (a = .bool) && decide (b = .int))
def Ty.nm : Ty → Str
  | .none => "NoneType"
  | .bool => "bool"
  | .int => "int"
  | .str => "str"
  | .tuple => "tuple"
  | .list => "list"
def Ty.ty : Ty → String
  | .none => "NoneType"
  | .bool => "bool"
  | .int => "int"
  | .str => "str"
  | .tuple => "tuple"
  | .list => "list"
def rngD : List D → Option (List D)
  | [.int n] => if -(2 ^ 62) ≤ n ∧ n < 2 ^ 62 then some ((List.range n.toNat).map fun i => .int (0 + (i : Nat))) else none
  | [.int a, .int n] => if -(2 ^ 62) ≤ a ∧ a < 2 ^ 62 ∧ -(2 ^ 62) ≤ n ∧ n < 2 ^ 62 then some ((List.range (n - a).toNat).map fun i => .int (a + (i : Nat))) else none
  | _ => none
def fmtD : D → Option Str
  | .str y => if y.length ≤ 16777216 then some y else none
  | .int i => if i.natAbs.log2 < 1920 then some (toString i) else none
  | _ => none
end Mp
end
section
set_option Elab.async false
set_option linter.all false
set_option maxRecDepth 100000
/-! Mp: the evaluator. -/
namespace Mp
open PySem PySem.Spec PyProof.Rows L2

structure Orc where
  call : Str → List D → M D
  glob : Str → Option D
  fld : Str → Str → Bool
  vals : List Str
  xfld : Str → Str → Bool
  exc : Option Ex

def onSt {α : Type} (f : Sto → Option α) : M α := fun st => match f st with
  | some a => some (.ok a, st)
  | none => none
mutual
/-- what a target takes: the slots -/
def put1 : Tg → D → Env → Option Env
  | .nm i, d, env => if i < env.length then some (env.set i (some d)) else none
  | .tp ts, .tup xs, env => puts ts xs env
  | .hd i j, .tup (x :: xs), env => if i < env.length ∧ j < env.length then some ((env.set i (some x)).set j (some (.lst xs))) else none
  | .hd i j, .lst (x :: xs), env => if i < env.length ∧ j < env.length then some ((env.set i (some x)).set j (some (.lst xs))) else none
  | .tl j i, .lst (x :: xs), env => if i < env.length ∧ j < env.length then some ((env.set j (some (.lst (x :: xs).dropLast))).set i ((x :: xs).getLast?)) else none
  | _, _, _ => none
def puts : List Tg → List D → Env → Option Env
  | [], [], env => some env
  | t :: ts, x :: xs, env => (put1 t x env).bind fun e => puts ts xs e
  | _, _, _ => none
end
def wipeE (env : Env) : List Nat → Env
  | [] => env
  | v :: vs => (wipeE env vs).set v none
/-- while it is held -/
def M.hold {α : Type} (h : Sto → Bool) (m : M α) : M α := fun st => match h st with
  | true => m st
  | false => none
/-- a comprehension's turns -/
def lcGo (h : Sto → Bool) (f : D → M (Option D)) : List D → List D → M (List D)
  | [], acc => M.hold h (M.ok acc)
  | x :: xs, acc => M.hold h ((f x).bind fun
    | none => lcGo h f xs acc
    | some y => if acc.length < 16777216 then lcGo h f xs (acc ++ [y]) else M.no)
/-- .. of a dict -/
def dcGo (h : Sto → Bool) (f : D → M (Option (Key × D))) : List D → List (Key × D) → M (List (Key × D))
  | [], acc => M.hold h (M.ok acc)
  | x :: xs, acc => M.hold h ((f x).bind fun
    | none => dcGo h f xs acc
    | some y => if acc.length < 16777216 then dcGo h f xs (setD y.1 y.2 acc) else M.no)
/-- no exception -/
def M.calm {α : Type} (m : M α) : M α := fun st => match m st with
  | some (.ok a, s) => some (.ok a, s)
  | _ => none
/-- a location laid -/
def mkLoc (d : D) : M D := fun st => match d with
  | .lst xs => some (.ok (.ref st.length), st ++ [.lst xs])
  | .dct kvs => some (.ok (.ref st.length), st ++ [.dk kvs])
  | _ => none
def onSt2 {α : Type} (f : Sto → Option (α × Sto)) : M α := fun st => match f st with
  | some p => some (.ok p.1, p.2)
  | none => none
/-- methods of built-in types -/
def bm0D (m : Bm0) (x : D) (st : Sto) : Option (D × Sto) := match m with
  | .lpop => (match x with
    | .ref l => (match st[l]? with
      | some (.lst ys) => (ys[ys.length - 1]?).map fun y => (y, st.set l (.lst ys.dropLast))
      | _ => none)
    | _ => none)
  | .lclear => (match x with
    | .ref l => (match st[l]? with
      | some (.lst _) => some (.non, st.set l (.lst []))
      | _ => none)
    | _ => none)
  | .lower => (match x with
    | .str a => if a.length ≤ 5592405 then some (.str (Txt.lower a), st) else none
    | _ => none)
  | .upper => (match x with
    | .str a => if a.length ≤ 5592405 then some (.str (Txt.upper a), st) else none
    | _ => none)
/-- what a method is asked of -/
def bm1K (m : Bm1) (st : Sto) (x : D) : Bool := match m with
  | .append => (lstX st x).isSome
  | .lpop => (lstX st x).isSome
  | .dpop => (match x with
    | .ref l => (match st[l]? with
      | some (.dk _) => true
      | _ => false)
    | _ => false)
  | _ => (match x with
    | .str _ => true
    | _ => false)
def bm1D (m : Bm1) (x y : D) (st : Sto) : Option (D × Sto) := match m with
  | .append => (match x with
    | .ref l => (match st[l]? with
      | some (.lst ys) => if ys.length < 16777216 then some (.non, st.set l (.lst (ys ++ [y]))) else none
      | _ => none)
    | _ => none)
  | .lpop => (match x with
    | .ref l => (match st[l]? with
      | some (.lst ys) => (match y with
        | .int i => (match ixN ys.length i with
          | some k => (ys[k]?).map fun y => (y, st.set l (.lst (ys.eraseIdx k)))
          | none => none)
        | _ => none)
      | _ => none)
    | _ => none)
  | .dpop => (match x with
    | .ref l => (match st[l]? with
      | some (.dk kvs) => (match keyOf y with
        | some k => (getD' k kvs).map fun v => (v, st.set l (.dk (delD k kvs)))
        | none => none)
      | _ => none)
    | _ => none)
  | .split => (match x with
    | .str a => (match y with
      | .str b => if (b.length == 0) = false ∧ a.length + 2 ≤ 16777216 then some (.lst ((Txt.split a b).map D.str), st) else none
      | _ => none)
    | _ => none)
  | .join => (match x with
    | .str a => (match (seqOf st y).bind strsOf with
      | some ys => if (ys.map Str.length).sum + ys.length * a.length ≤ 16777216 then some (.str (Txt.join a ys), st) else none
      | none => none)
    | _ => none)
  | .find => (match x with
    | .str a => (match y with
      | .str b => some (.int (Txt.find a b), st)
      | _ => none)
    | _ => none)
  | .startswith => (match x with
    | .str a => (match y with
      | .str b => some (.bl (Txt.startswith a b), st)
      | _ => none)
    | _ => none)
  | .endswith => (match x with
    | .str a => (match y with
      | .str b => some (.bl (Txt.endswith a b), st)
      | _ => none)
    | _ => none)
/-- a new instance -/
def mkD (O : Orc) (C : Str) (xs : List D) : M D := fun st => ((O.call (C ++ ".__init__") (.ref st.length :: xs)).bind fun r => if isNon r = true then M.ok (.ref st.length) else M.no) (st ++ [.ins C []])
/-- sorted -/
def insI (i : Int) : List Int → List Int
  | [] => [i]
  | j :: r => if i ≤ j then i :: j :: r else j :: insI i r
def srtI : List Int → List Int
  | [] => []
  | i :: r => insI i (srtI r)
def insS (i : Str) : List Str → List Str
  | [] => [i]
  | j :: r => if ltCps j.cps.toList i.cps.toList = true then j :: insS i r else i :: j :: r
def srtS : List Str → List Str
  | [] => []
  | i :: r => insS i (srtS r)
def srtD (st : Sto) (x : D) : Option D := (lstOf st x).bind fun xs => if xs.length < 64 then (match strsOf xs with
  | some ys => some (.lst ((srtS ys).map D.str))
  | none => (intsOf xs).map fun ns => .lst ((srtI ns).map D.int)) else none
/-- what keeps a by-value source -/
def unRef : D → Bool
  | .ref _ => false
  | _ => true
def isHole : PX → Bool
  | .hole => true
  | _ => false
def negD : D → Option D
  | .int i => some (.int (-i))
  | _ => none
def itemsD : D → Option (D × List D)
  | .dct kvs => some (.non, kvs.map fun p => .tup [keyD p.1, p.2])
  | _ => none
def asInt : D → M (Option Int)
  | .int i => M.ok (some i)
  | _ => M.no
mutual
def evE (O : Orc) : PX → Env → M D
  | .hole, _ => M.no
  | .var i, env => (match env[i]? with
    | some (some d) => M.ok d
    | _ => M.no)
  | .cst d, _ => M.ok d
  | .glob x, _ => M.lift (O.glob x)
  | .bop o a b, env => (evE O a env).bind fun x => (evE O b env).bind fun y => onSt fun st => bopD o st x y
  | .cmp o a b, env => (evE O a env).bind fun x => (evE O b env).bind fun y => onSt fun st => (cmpD o st x y).map D.bl
  | .chn o p a b c, env => (evE O a env).bind fun x => (evE O b env).bind fun y => (onSt fun st => cmpD o st x y).bind fun
    | true => (evE O c env).bind fun z => onSt fun st => (cmpD p st y z).map D.bl
    | false => M.ok (.bl false)
  | .and_ a b, env => (evE O a env).bind fun x => (onSt fun st => truth st x).bind fun
    | true => evE O b env
    | false => M.ok x
  | .or_ a b, env => (evE O a env).bind fun x => (onSt fun st => truth st x).bind fun
    | true => M.ok x
    | false => evE O b env
  | .not_ a, env => (evE O a env).bind fun x => onSt fun st => (truth st x).map fun b => .bl (!b)
  | .neg a, env => (evE O a env).bind fun x => onSt fun _ => negD x
  | .ife c a b, env => (evE O c env).bind fun x => (onSt fun st => truth st x).bind fun
    | true => evE O a env
    | false => evE O b env
  | .tup es, env => (evEs O es env).bind fun xs => M.ok (.tup xs)
  | .val f, env => evF O f env
  | .loc f, env => (evF O f env).bind mkLoc
  | .frz e, env => fun st => ((evE O e env).bind (freeze st.length)) st
  | .item a i, env => (evE O a env).bind fun x => (evE O i env).bind fun y => onSt fun st => itemD st x y
  | .slc a lo hi, env => (evE O a env).bind fun x => (if isHole lo = true then M.ok none else (evE O lo env).bind asInt).bind fun y => (if isHole hi = true then M.ok none else (evE O hi env).bind asInt).bind fun z => onSt fun st => slcD st x y z
  | .rev a, env => (evE O a env).bind fun x => onSt fun st => (match x with
    | .str z => some (.str ⟨z.cps.reverse⟩)
    | x => (lstOf st x).map fun xs => .lst xs.reverse)
  | .fld a f, env => (evE O a env).bind fun x => onSt fun st => (objOf st x).bind fun o => if O.fld o.1 f = true then getD' f o.2 else none
  | .call f es ds, env => (evEs O es env).bind fun xs => O.call f (xs ++ ds)
  | .meth C o m es ds, env => (evE O o env).bind fun x => (onSt fun st => (objOf st x).bind fun ob => if ob.1 = C ∧ hasD m ob.2 = false then some () else none).bind fun _ => (evEs O es env).bind fun xs => O.call (C ++ "." ++ m) (x :: (xs ++ ds))
  | .make C es ds, env => (evEs O es env).bind fun xs => mkD O C (xs ++ ds)
  | .callv i es, env => (match env[i]? with
    | some (some (.fn f)) => if O.vals.contains f = true then (evEs O es env).bind fun xs => O.call f xs else M.no
    | _ => M.no)
  | .blt b e, env => (evE O e env).bind fun x => onSt fun st => bltD b st x
  | .isi e ts, env => (evE O e env).bind fun x => onSt fun st => (tyOf st x).map fun t => .bl (ts.any fun c => t.sub c)
  | .bm0 m o, env => (evE O o env).bind fun x => onSt2 (bm0D m x)
  | .bm1 m o e, env => (evE O o env).bind fun x => (onSt fun st => if bm1K m st x = true then some () else none).bind fun _ => (evE O e env).bind fun y => onSt2 (bm1D m x y)
  | .fmt es, env => (evFm O es env Str.empty).bind fun z => M.ok (.str z)
  | .errf _ f, _ => M.lift (O.exc.bind fun x => if O.xfld x.cls f = true then getD' f x.fs else none)
def evEs (O : Orc) : List PX → Env → M (List D)
  | [], _ => M.ok []
  | e :: es, env => (evE O e env).bind fun x => (evEs O es env).bind fun xs => M.ok (x :: xs)
/-- a text with fields -/
def evFm (O : Orc) : List PX → Env → Str → M Str
  | [], _, acc => M.ok acc
  | e :: es, env, acc => (evE O e env).bind fun x => (M.lift (fmtD x)).bind fun y => if acc.length + y.length ≤ 16777216 then evFm O es env (acc ++ y) else M.no
def evCs (O : Orc) : List PX → Env → M Bool
  | [], _ => M.ok true
  | e :: es, env => (evE O e env).bind fun x => (onSt fun st => truth st x).bind fun
    | true => evCs O es env
    | false => M.ok false
def evF (O : Orc) : PF → Env → M D
  | .lst es, env => (evEs O es env).bind fun xs => M.ok (.lst xs)
  | .dsp ks es, env => (evEs O es env).bind fun xs => onSt fun _ => if ks.length = xs.length ∧ ks.length ≤ 15 then some (.dct ((ks.zip xs).foldl (fun l p => setD p.1 p.2 l) [])) else none
  | .list e, env => (evE O e env).bind fun x => onSt fun st => listR st x
  | .srt e, env => (evE O e env).bind fun x => onSt fun st => srtD st x
  | .dict e, env => (evE O e env).bind fun x => onSt fun st => (dctOf st x).map D.dct
  | .lc own src tg cs e, env => (evI O src env).bind fun s =>
      (M.calm (lcGo (heldD s.1 s.2) (fun x => match put1 tg x (wipeE env own) with
        | none => M.no
        | some env' => (evCs O cs env').bind fun
          | false => M.ok none
          | true => (evE O e env').bind fun d => M.ok (some d)) s.2 [])).bind fun ys => M.ok (.lst ys)
  | .dc own src tg cs k e, env => (evI O src env).bind fun s =>
      (M.calm (dcGo (heldD s.1 s.2) (fun x => match put1 tg x (wipeE env own) with
        | none => M.no
        | some env' => (evCs O cs env').bind fun
          | false => M.ok none
          | true => (evE O k env').bind fun y => (evE O e env').bind fun d => M.lift ((keyOf y).map fun k => some (k, d))) s.2 [])).bind fun ys => M.ok (.dct ys)
/-- what is held, the items -/
def evI (O : Orc) : PSrc → Env → M (D × List D)
  | .val e, env => (evE O e env).bind fun x => onSt fun st => (itemsOf st x).map fun xs => (x, xs)
  | .items e, env => (evE O e env).bind fun x => onSt fun _ => itemsD x
  | .enum e, env => (evE O e env).bind fun x => onSt fun st => if unRef x = true then (lstOf st x).map fun xs => (.non, enumD 0 xs) else none
  | .zip a b, env => (evE O a env).bind fun x => (evE O b env).bind fun y => onSt fun st => if unRef x = true ∧ unRef y = true then (match x with
      | .tup xs => (match y with
        | .tup ys => some (.non, zipD xs ys)
        | _ => none)
      | x => (lstOf st x).bind fun xs => (lstOf st y).map fun ys => (.non, zipD xs ys)) else none
  | .rng es, env => (evEs O es env).bind fun xs => onSt fun _ => (rngD xs).map fun ys => (.non, ys)
end
end Mp
end
section
set_option Elab.async false
set_option linter.all false
set_option maxRecDepth 100000
/-! Mp: statements, calls. -/
namespace Mp
open PySem L2

mutual
inductive PSt where
  | hole
  | pass
  | expr (e : PX)
  | asg (t : Tg) (e : PX)
  | par (i j : Nat) (a b : PX)
  | setf (o : PX) (f : Str) (e : PX)
  | seti (o i e : PX)
  | aug (i : Nat) (o : BOp) (e : PX)
  | augf (a : PX) (f : Str) (o : BOp) (e : PX)
  | ifs (c : PX) (t e : List PSt)
  | fors (src : PSrc) (tg : Tg) (b : List PSt)
  | whl (c : PX) (b : List PSt)
  | ret (e : PX)
  | retn
  | cont
  | brk
  | rais (C : Str) (es : List PX)
  | try_ (b : List PSt) (hs : List PH)
inductive PH where
  | mk (cs : List Str) (i : Option Nat) (b : List PSt)
end
inductive Fl where
  | next (env : Env)
  | ret (d : D)
  | brk (env : Env)
  | cont (env : Env)
  | ex (x : Ex) (env : Env)
abbrev SM := Sto → Option (Fl × Sto)
/-- a new exception: its word, what is handed in, by the fields in order -/
def mkFs {α : Type} (w : α) (fs : List Str) (xs : List α) : List (Str × α) := (fs.zip xs).reverse ++ [(("word" : Str), w)]
structure Wld where
  sub : Str → Str → Option Bool
  exw : Str → Option (Str × List Str)
  fuel : Nat
def Wld.mkx (W : Wld) (C : Str) (xs : List D) : Option Ex := match W.exw C with
  | some (w, fs) => if fs.length = xs.length then some ⟨C, mkFs (.str w) fs xs⟩ else none
  | none => none
/-- an expression's value, then -/
def M.run {α : Type} (m : M α) (env : Env) (f : α → SM) : SM := fun st => match m st with
  | none => none
  | some (.ok a, s) => f a s
  | some (.ex x, s) => some (.ex x env, s)
def SM.seq (m : SM) (f : Env → SM) : SM := fun st => match m st with
  | some (.next env, s) => f env s
  | r => r
def fl (f : Fl) : SM := fun st => some (f, st)
def no : SM := fun _ => none
/-- while it is held -/
def SM.hold (h : Sto → Bool) (m : SM) : SM := fun st => match h st with
  | true => m st
  | false => none
/-- a for's turns -/
def forGo (h : Sto → Bool) (f : D → Env → SM) : List D → Env → SM
  | [], env => SM.hold h (fl (.next env))
  | x :: xs, env => SM.hold h fun st => match f x env st with
    | some (.next e, s) => forGo h f xs e s
    | some (.cont e, s) => forGo h f xs e s
    | some (.brk e, s) => some (.next e, s)
    | r => r
/-- a while's turns -/
def whlGo (c : Env → M Bool) (f : Env → SM) : Nat → Env → SM
  | 0, _ => no
  | n + 1, env => (c env).run env fun
    | false => fl (.next env)
    | true => fun st => match f env st with
      | some (.next e, s) => whlGo c f n e s
      | some (.cont e, s) => whlGo c f n e s
      | some (.brk e, s) => some (.next e, s)
      | r => r
def setfD (ok : Str → Str → Bool) (x : D) (f : Str) (v : D) : Sto → Option Sto := fun st => match x with
  | .ref l => (match st[l]? with
    | some (.ins C fs) => if fs.length < 1000 ∧ ok C f = true then some (st.set l (.ins C (setF f v fs))) else none
    | _ => none)
  | _ => none
def lstPut (xs : List D) (i v : D) : Option (List D) := match i with
  | .int n => (ixN xs.length n).map fun j => xs.set j v
  | _ => none
def dctPut (kvs : List (Key × D)) (i v : D) : Option (List (Key × D)) := (keyOf i).bind fun k => if kvs.length < 16777216 then some (setD k v kvs) else none
def setiD (x i v : D) : Sto → Option Sto := fun st => match x with
  | .ref l => (match st[l]? with
    | some (.lst xs) => (lstPut xs i v).map fun ys => st.set l (.lst ys)
    | some (.dk kvs) => (dctPut kvs i v).map fun ks => st.set l (.dk ks)
    | _ => none)
  | _ => none
def matches_ (W : Wld) (c : Str) : List Str → Option Bool
  | [] => some false
  | d :: ds => match W.sub c d, matches_ W c ds with
    | some a, some b => some (a || b)
    | _, _ => none
/-- behind a suite: the exception's name goes -/
def suiteEnd (i : Option Nat) : Option (Fl × Sto) → Option (Fl × Sto)
  | some (.next e, s) => some (.next (match i with
    | none => e
    | some i => e.set i none), s)
  | some (.brk e, s) => some (.brk (match i with
    | none => e
    | some i => e.set i none), s)
  | some (.cont e, s) => some (.cont (match i with
    | none => e
    | some i => e.set i none), s)
  | some (.ret d, s) => some (.ret d, s)
  | _ => none
def suiteAt (i : Option Nat) (run : Option Ex → Env → SM) (x : Ex) (env : Env) : SM := match i with
  | none => fun st => suiteEnd none (run none env st)
  | some i => if i < env.length then fun st => suiteEnd (some i) (run (some x) (env.set i none) st) else no
mutual
def exS (O : Orc) (W : Wld) : PSt → Env → SM
  | .hole, _ => no
  | .pass, env => fl (.next env)
  | .expr e, env => (evE O e env).run env fun _ => fl (.next env)
  | .asg t e, env => (evE O e env).run env fun d => (match put1 t d env with
    | some env' => fl (.next env')
    | none => no)
  | .par i j a b, env => (evE O a env).run env fun x => (evE O b env).run env fun y => if i < env.length ∧ j < env.length then fl (.next ((env.set i (some x)).set j (some y))) else no
  | .setf o f e, env => (evE O e env).run env fun v => (evE O o env).run env fun x => fun st => (setfD O.fld x f v st).map fun s => (.next env, s)
  | .seti o i e, env => (evE O e env).run env fun v => (evE O o env).run env fun x => (evE O i env).run env fun y => fun st => (setiD x y v st).map fun s => (.next env, s)
  | .aug i o e, env => (match env[i]? with
    | some (some x) => (evE O e env).run env fun y => fun st => (bopD o st x y).map fun d => (.next (env.set i (some d)), st)
    | _ => no)
  | .augf a f o e, env => (evE O a env).run env fun x => (onSt fun st => (objOf st x).bind fun o => if O.fld o.1 f = true then getD' f o.2 else none).run env fun v => (evE O e env).run env fun y => fun st => (bopD o st v y).bind fun d => (setfD O.fld x f d st).map fun s => (.next env, s)
  | .ifs c t e, env => (evE O c env).run env fun x => (onSt fun st => truth st x).run env fun
    | true => exSs O W t env
    | false => exSs O W e env
  | .fors src tg b, env => (evI O src env).run env fun s => forGo (heldD s.1 s.2) (fun x env => match put1 tg x env with
    | some env' => exSs O W b env'
    | none => no) s.2 env
  | .whl c b, env => whlGo (fun env => (evE O c env).bind fun x => onSt fun st => truth st x) (fun env => exSs O W b env) W.fuel env
  | .ret e, env => (evE O e env).run env fun d => fl (.ret d)
  | .retn, _ => fl (.ret .non)
  | .cont, env => fl (.cont env)
  | .brk, env => fl (.brk env)
  | .rais C es, env => (evEs O es env).run env fun xs => (match W.mkx C xs with
    | some x => fl (.ex x env)
    | none => no)
  | .try_ b hs, env => fun st => match exSs O W b env st with
    | some (.ex x env', s) => exH O W hs x env' s
    | r => r
def exSs (O : Orc) (W : Wld) : List PSt → Env → SM
  | [], env => fl (.next env)
  | p :: ps, env => (exS O W p env).seq fun env' => exSs O W ps env'
def exH (O : Orc) (W : Wld) : List PH → Ex → Env → SM
  | [], x, env => fl (.ex x env)
  | .mk cs i b :: hs, x, env => (match matches_ W x.cls cs with
    | none => no
    | some true => suiteAt i (fun e env => exSs { O with exc := e } W b env) x env
    | some false => exH O W hs x env)
end
structure Fn where
  np : Nat
  n : Nat
  frz : Bool
  body : List PSt
structure Prg where
  fn : Str → Option Fn
  glob : Str → Option D
  fld : Str → Str → Bool
  vals : List Str
  xfld : Str → Str → Bool
  wld : Wld
def clF' (n : Nat) : List (Str × D) → Bool := D.clf n
def finish (frz : Bool) (n : Nat) (d : D) : M D := if frz = true then freeze n d else M.ok d
def finX (frz : Bool) (n : Nat) (x : Ex) : M D := fun st => if frz = true then (if (st.take n).all (Ob.cl n) = true ∧ D.clf n x.fs = true then some (.ex x, st.take n) else none) else some (.ex x, st)
def orcX (P : Prg) (c : Str → List D → M D) (x : Option Ex) : Orc := ⟨c, P.glob, P.fld, P.vals, P.xfld, x⟩
abbrev orc (P : Prg) (c : Str → List D → M D) : Orc := orcX P c none
/-- a call -/
def callF (P : Prg) : Nat → Str → List D → M D
  | 0, _, _ => M.no
  | k + 1, f, xs => fun st => match P.fn f with
    | none => none
    | some F => if xs.length = F.np then (match exSs (orc P (callF P k)) P.wld F.body (xs.map some ++ List.replicate (F.n - F.np) none) st with
      | some (.next _, s) => finish F.frz st.length .non s
      | some (.ret d, s) => finish F.frz st.length d s
      | some (.ex x _, s) => finX F.frz st.length x s
      | _ => none) else none
end Mp
end
section
set_option Elab.async false
set_option linter.all false
set_option maxRecDepth 100000
/-! Mp: how trees and locations lie in the heap of the layer. -/
namespace Mp
open PySem L2

structure Cfg where
  K : PySem.W.Frag
  w : World
  cA : Str → Addr
  fA : Str → Addr

/-- the addresses of the locations; of what is tracked and none of ours -/
structure Lo where
  l : List Addr
  z : List Addr
instance : Membership Addr Lo := ⟨fun ρ a => a ∈ ρ.l ∨ a ∈ ρ.z⟩
structure HCx where
  slot : Nat
  a : Addr
  dd : Addr
  cls : Str
  fs : List (Str × D)
/-- what is wished of what is raised; what is handled -/
structure Cw where
  x : WX
  h : Option HCx
def WrL (K : PySem.W.Frag) (a : Addr) (vs : List V) : Prop := SqL K (fun _ => none) a vs
def WrT (K : PySem.W.Frag) (a : Addr) (vs : List V) : Prop := SqT K (fun _ => none) a vs
def lookV {κ : Type} [DecidableEq κ] (k : κ) : List (κ × V) → Option V
  | [] => none
  | (j, v) :: r => if j = k then some v else lookV k r
structure WrD (G : Cfg) (a : Addr) (kvs : List (Str × V)) : Prop where
  kd : ∃ es n, KDict G.K G.w a es n
  get : ∀ z : Str, ∃ r, PySem.W.nsIn G.K a z = some r ∧ (match kvs.lookup z with
    | some v => ∃ u, r = some u ∧ RelV v u
    | none => r = none)
theorem WrL.sq {K : PySem.W.Frag} {a : Addr} {vs : List V} (h : WrL K a vs) (H : Hp) : SqL K H a vs := by
  rcases h with (h | ⟨o, h⟩) | h
  · cases h
  · cases h
  · exact .inr h
theorem WrT.sq {K : PySem.W.Frag} {a : Addr} {vs : List V} (h : WrT K a vs) (H : Hp) : SqT K H a vs := by
  rcases h with (h | ⟨o, h⟩) | h
  · cases h
  · cases h
  · exact .inr h

section
variable (G : Cfg) (ρ : Lo) (H : Hp)
def AtL (a : Addr) (vs : List V) : Prop := (a ∉ ρ ∧ Rd H a (.lst vs)) ∨ WrL G.K a vs
def AtT (a : Addr) (vs : List V) : Prop := (a ∉ ρ ∧ Rd H a (.tup vs)) ∨ WrT G.K a vs
def AtD (a : Addr) (kvs : List (Key × V)) : Prop := a ∉ ρ ∧ Rd H a (.dK kvs)
mutual
def RelP : D → V → Prop
  | .non, v => v = .non
  | .bl b, v => v = .bl b
  | .int i, v => v = .int i
  | .str s, v => v = .str s
  | .tup xs, v => ∃ a vs, v = .ref a ∧ AtT G ρ H a vs ∧ RelPs xs vs
  | .lst xs, v => ∃ a vs, v = .ref a ∧ a ∉ ρ ∧ H a = some (.lst vs) ∧ RelPs xs vs
  | .dct kvs, v => ∃ a kvs', v = .ref a ∧ AtD ρ H a kvs' ∧ RelPk kvs kvs'
  | .obj C fs, v => ∃ a dx fs', v = .ref a ∧ a ∉ ρ ∧ H a = some (.ins (G.cA C) dx fs') ∧ RelPf fs fs'
  | .ref l, v => ∃ a, ρ.l[l]? = some a ∧ v = .ref a
  | .fn x, v => v = .ref (G.fA x)
  | .scr ns, v => ∃ a, v = .ref a ∧ AtL G ρ H a (ns.map V.int)
  | .wd fs, v => ∃ a fs', v = .ref a ∧ WrD G a fs' ∧ RelPf fs fs'
def RelPs : List D → List V → Prop
  | [], vs => vs = []
  | d :: r, vs => ∃ v t, vs = v :: t ∧ RelP d v ∧ RelPs r t
def RelPk : List (Key × D) → List (Key × V) → Prop
  | [], vs => vs = []
  | (k, d) :: r, vs => ∃ v t, vs = (k, v) :: t ∧ RelP d v ∧ RelPk r t
def RelPf : List (Str × D) → List (Str × V) → Prop
  | [], vs => vs = []
  | (k, d) :: r, vs => ∃ v t, vs = (k, v) :: t ∧ RelP d v ∧ RelPf r t
end
def RelPt : List (List Key × D) → List (List Key × V) → Prop
  | [], vs => vs = []
  | (k, d) :: r, vs => ∃ v t, vs = (k, v) :: t ∧ RelP G ρ H d v ∧ RelPt r t
def RelOb (a : Addr) : Ob → Prop
  | .lst xs => ∃ vs, H a = some (.lst vs) ∧ RelPs G ρ H xs vs
  | .dk kvs => ∃ kvs', H a = some (.dK kvs') ∧ RelPk G ρ H kvs kvs'
  | .dt kvs => ∃ kvs', H a = some (.dT kvs') ∧ RelPt G ρ H kvs kvs'
  | .ins C fs => ∃ dx fs', H a = some (.ins (G.cA C) dx fs') ∧ RelPf G ρ H fs fs'
structure Rel (st : Sto) : Prop where
  len : ρ.l.length = st.length
  nd : ρ.l.Nodup
  zs : ∀ a ∈ ρ.z, a ∉ ρ.l ∧ ∃ o, H a = some o
  at_ : ∀ (l : Nat) (o : Ob) (a : Addr), st[l]? = some o → ρ.l[l]? = some a → RelOb G ρ H a o
def RelO' : Option D → Option V → Prop
  | some d, some v => RelP G ρ H d v
  | some _, none => False
  | none, _ => True
structure EnvR (W : Cw) (env : Env) (σ : St) : Prop where
  len : env.length = σ.length
  at_ : ∀ (i : Nat) (d : D), env[i]? = some (some d) → ∃ v, σ[i]? = some (some v) ∧ RelP G ρ H d v
  hx : ∀ h, W.h = some h → σ[h.slot]? = some (some (.ref h.a)) ∧ h.dd ∉ ρ ∧ ∃ fs', H h.dd = some (.xd fs') ∧ RelPf G ρ H h.fs fs'
end
def dictHO : HO → Bool
  | .dK _ => true
  | .dT _ => true
  | _ => false
/-- it stands as it stood; a dict may have been locked -/
def Kept (o : HO) (u : Option HO) : Prop := u = some o ∨ (dictHO o = true ∧ ∃ ob, u = some (.frz ob o))
theorem Kept.exact {o : HO} {u : Option HO} (h : Kept o u) (d : dictHO o = false) : u = some o := by
  rcases h with h | ⟨h, _⟩
  · exact h
  · rw [d] at h
    cases h
theorem Kept.there {o : HO} {u : Option HO} (h : Kept o u) : ∃ v, u = some v := by
  rcases h with h | ⟨_, ob, h⟩
  · exact ⟨_, h⟩
  · exact ⟨_, h⟩
theorem Kept.then {o : HO} {u : Option HO} (h : Kept o u) {v : Option HO} (k : ∀ x, u = some x → Kept x v) : Kept o v := by
  rcases h with h | ⟨d, ob, h⟩
  · exact k o h
  · exact .inr ⟨d, ob, (k _ h).exact rfl⟩
/-- .. but what is tracked and none of ours -/
def KeptA (z : List Addr) (a : Addr) (o : HO) (u : Option HO) : Prop := u = some o ∨ (a ∉ z ∧ dictHO o = true ∧ ∃ ob, u = some (.frz ob o))
theorem KeptA.kept {z : List Addr} {a : Addr} {o : HO} {u : Option HO} (h : KeptA z a o u) : Kept o u := by
  rcases h with h | ⟨_, d, h⟩
  · exact .inl h
  · exact .inr ⟨d, h⟩
theorem KeptA.exact {z : List Addr} {a : Addr} {o : HO} {u : Option HO} (h : KeptA z a o u) (d : dictHO o = false) : u = some o := h.kept.exact d
theorem KeptA.there {z : List Addr} {a : Addr} {o : HO} {u : Option HO} (h : KeptA z a o u) : ∃ v, u = some v := h.kept.there
theorem KeptA.inz {z : List Addr} {a : Addr} {o : HO} {u : Option HO} (h : KeptA z a o u) (m : a ∈ z) : u = some o := by
  rcases h with h | ⟨n, _⟩
  · exact h
  · exact absurd m n
theorem KeptA.then {z : List Addr} {a : Addr} {o : HO} {u : Option HO} (h : KeptA z a o u) {v : Option HO} (k : ∀ x, u = some x → KeptA z a x v) : KeptA z a o v := by
  rcases h with h | ⟨n, d, ob, h⟩
  · exact k o h
  · exact .inr ⟨n, d, ob, (k _ h).exact rfl⟩
theorem KeptA.less {z : List Addr} {p a : Addr} {o : HO} {u : Option HO} (h : KeptA (p :: z) a o u) : KeptA z a o u := by
  rcases h with h | ⟨n, d, h⟩
  · exact .inl h
  · exact .inr ⟨fun q => n (List.mem_cons_of_mem _ q), d, h⟩
/-- a stretch of the run -/
structure Step (ρ ρ' : Lo) (H H' : Hp) : Prop where
  ext : ∃ more, ρ'.l = ρ.l ++ more
  z : ρ'.z = ρ.z
  new : ∀ a ∈ ρ'.l, a ∉ ρ.l → H a = none
  keep : ∀ a o, H a = some o → a ∉ ρ.l → KeptA ρ.z a o (H' a)

section
variable {G : Cfg} {ρ ρ' ρ1 ρ2 : Lo} {H H' H1 H2 : Hp}
theorem nol {a : Addr} (n : a ∉ ρ) : a ∉ ρ.l := fun h => n (.inl h)
theorem Step.refl : Step ρ ρ H H := ⟨⟨[], by simp⟩, rfl, fun a h n => absurd h n, fun a o h _ => .inl h⟩
theorem Step.keep' (s : Step ρ ρ' H H') {a : Addr} {o : HO} (h : H a = some o) (n : a ∉ ρ) (d : dictHO o = false := by rfl) : H' a = some o := (s.keep a o h (nol n)).exact d
theorem Step.notl (s : Step ρ ρ' H H') {a : Addr} {o : HO} (h : H a = some o) (n : a ∉ ρ.l) : a ∉ ρ'.l := fun q => by
  rw [s.new a q n] at h
  cases h
theorem Step.notin (s : Step ρ ρ' H H') {a : Addr} {o : HO} (h : H a = some o) (n : a ∉ ρ) : a ∉ ρ' := fun q => by
  rcases q with q | q
  · exact s.notl h (nol n) q
  · rw [s.z] at q
    exact n (.inr q)
theorem Step.free (s : Step ρ ρ' H H') {a : Addr} (h : H' a = none) (n : a ∉ ρ.l) : H a = none := by
  cases e : H a with
  | none => rfl
  | some o =>
    obtain ⟨v, q⟩ := (s.keep a o e n).there
    rw [q] at h
    cases h
theorem Step.sub (s : Step ρ ρ' H H') {a : Addr} (h : a ∈ ρ.l) : a ∈ ρ'.l := by
  obtain ⟨m, e⟩ := s.ext
  rw [e]
  exact List.mem_append_left _ h
theorem Step.trans (s : Step ρ ρ1 H H1) (t : Step ρ1 ρ2 H1 H2) : Step ρ ρ2 H H2 := by
  refine ⟨?_, t.z.trans s.z, fun a h n => ?_, fun a o h n => ?_⟩
  · obtain ⟨m, e⟩ := s.ext
    obtain ⟨m', e'⟩ := t.ext
    exact ⟨m ++ m', by rw [e', e, List.append_assoc]⟩
  · by_cases q : a ∈ ρ1.l
    · exact s.new a q n
    · exact s.free (t.new a h q) n
  · exact (s.keep a o h n).then fun x hx => by
      have q := t.keep a x hx (s.notl h n)
      rw [s.z] at q
      exact q
/-- what is read stays -/
structure Mv (ρ ρ' : Lo) (H H' : Hp) : Prop where
  at_ : ∀ {l : Nat} {a : Addr}, ρ.l[l]? = some a → ρ'.l[l]? = some a
  out : ∀ {a : Addr} {o : HO}, H a = some o → a ∉ ρ → a ∉ ρ' ∧ Kept o (H' a)
theorem Mv.notin (s : Mv ρ ρ' H H') {a : Addr} {o : HO} (h : H a = some o) (n : a ∉ ρ) : a ∉ ρ' := (s.out h n).1
theorem Mv.keep' (s : Mv ρ ρ' H H') {a : Addr} {o : HO} (h : H a = some o) (n : a ∉ ρ) (d : dictHO o = false := by rfl) : H' a = some o := (s.out h n).2.exact d
theorem Mv.rd (s : Mv ρ ρ' H H') {a : Addr} {u : HO} (h : Rd H a u) (n : a ∉ ρ) : Rd H' a u ∧ a ∉ ρ' := by
  rcases h with h | ⟨o, h⟩
  · refine ⟨?_, s.notin h n⟩
    rcases (s.out h n).2 with q | ⟨_, q⟩
    · exact .inl q
    · exact .inr q
  · exact ⟨.inr ⟨o, s.keep' h n⟩, s.notin h n⟩
theorem AtL.mv {a : Addr} {vs : List V} (h : AtL G ρ H a vs) (s : Mv ρ ρ' H H') : AtL G ρ' H' a vs := by
  rcases h with ⟨n, h⟩ | h
  · obtain ⟨q, m⟩ := s.rd h n
    exact .inl ⟨m, q⟩
  · exact .inr h
theorem AtT.mv {a : Addr} {vs : List V} (h : AtT G ρ H a vs) (s : Mv ρ ρ' H H') : AtT G ρ' H' a vs := by
  rcases h with ⟨n, h⟩ | h
  · obtain ⟨q, m⟩ := s.rd h n
    exact .inl ⟨m, q⟩
  · exact .inr h
theorem AtD.mv {a : Addr} {vs : List (Key × V)} (h : AtD ρ H a vs) (s : Mv ρ ρ' H H') : AtD ρ' H' a vs := by
  obtain ⟨n, h⟩ := h
  obtain ⟨q, m⟩ := s.rd h n
  exact ⟨m, q⟩
mutual
theorem RelP.mv (s : Mv ρ ρ' H H') : ∀ {d : D} {v : V}, RelP G ρ H d v → RelP G ρ' H' d v
  | .non, _, h => h
  | .bl _, _, h => h
  | .int _, _, h => h
  | .str _, _, h => h
  | .tup xs, _, h => by
    obtain ⟨a, vs, e, h1, h2⟩ := h
    exact ⟨a, vs, e, h1.mv s, RelPs.mv s h2⟩
  | .lst xs, _, h => by
    obtain ⟨a, vs, e, n, h1, h2⟩ := h
    exact ⟨a, vs, e, s.notin h1 n, s.keep' h1 n, RelPs.mv s h2⟩
  | .dct kvs, _, h => by
    obtain ⟨a, vs, e, h1, h2⟩ := h
    exact ⟨a, vs, e, h1.mv s, RelPk.mv s h2⟩
  | .obj C fs, _, h => by
    obtain ⟨a, dx, fs', e, n, h1, h2⟩ := h
    exact ⟨a, dx, fs', e, s.notin h1 n, s.keep' h1 n, RelPf.mv s h2⟩
  | .ref l, _, h => by
    obtain ⟨a, h1, e⟩ := h
    exact ⟨a, s.at_ h1, e⟩
  | .fn _, _, h => h
  | .scr _, _, h => by
    obtain ⟨a, e, h1⟩ := h
    exact ⟨a, e, h1.mv s⟩
  | .wd fs, _, h => by
    obtain ⟨a, fs', e, h1, h2⟩ := h
    exact ⟨a, fs', e, h1, RelPf.mv s h2⟩
theorem RelPs.mv (s : Mv ρ ρ' H H') : ∀ {d : List D} {v : List V}, RelPs G ρ H d v → RelPs G ρ' H' d v
  | [], _, h => h
  | _ :: _, _, h => by
    obtain ⟨v, t, e, h1, h2⟩ := h
    exact ⟨v, t, e, RelP.mv s h1, RelPs.mv s h2⟩
theorem RelPk.mv (s : Mv ρ ρ' H H') : ∀ {d : List (Key × D)} {v : List (Key × V)}, RelPk G ρ H d v → RelPk G ρ' H' d v
  | [], _, h => h
  | (_, _) :: _, _, h => by
    obtain ⟨v, t, e, h1, h2⟩ := h
    exact ⟨v, t, e, RelP.mv s h1, RelPk.mv s h2⟩
theorem RelPf.mv (s : Mv ρ ρ' H H') : ∀ {d : List (Str × D)} {v : List (Str × V)}, RelPf G ρ H d v → RelPf G ρ' H' d v
  | [], _, h => h
  | (_, _) :: _, _, h => by
    obtain ⟨v, t, e, h1, h2⟩ := h
    exact ⟨v, t, e, RelP.mv s h1, RelPf.mv s h2⟩
end
theorem RelPt.mv (s : Mv ρ ρ' H H') : ∀ {d : List (List Key × D)} {v : List (List Key × V)}, RelPt G ρ H d v → RelPt G ρ' H' d v
  | [], _, h => h
  | (_, _) :: _, _, h => by
    obtain ⟨v, t, e, h1, h2⟩ := h
    exact ⟨v, t, e, RelP.mv s h1, RelPt.mv s h2⟩
theorem Step.at (s : Step ρ ρ' H H') {l : Nat} {a : Addr} (h : ρ.l[l]? = some a) : ρ'.l[l]? = some a := by
  obtain ⟨m, e⟩ := s.ext
  have hl : l < ρ.l.length := (List.getElem?_eq_some_iff.mp h).1
  rw [e, List.getElem?_append_left hl]
  exact h
theorem Step.mv (s : Step ρ ρ' H H') : Mv ρ ρ' H H' := ⟨s.at, fun h n => ⟨s.notin h n, (s.keep _ _ h (nol n)).kept⟩⟩
theorem Mv.step {H0 : Hp} {ρ0 : Lo} (a : Mv ρ0 ρ H0 H) (s : Step ρ ρ' H H') : Mv ρ0 ρ' H0 H' := ⟨fun h => s.at (a.at_ h), fun {b o} h n => by
  obtain ⟨n1, k1⟩ := a.out h n
  obtain ⟨u, hu⟩ := k1.there
  exact ⟨s.notin hu n1, k1.then fun x hx => (s.keep b x hx (nol n1)).kept⟩⟩
theorem AtL.step {a : Addr} {vs : List V} (h : AtL G ρ H a vs) (s : Step ρ ρ' H H') : AtL G ρ' H' a vs := h.mv s.mv
theorem AtT.step {a : Addr} {vs : List V} (h : AtT G ρ H a vs) (s : Step ρ ρ' H H') : AtT G ρ' H' a vs := h.mv s.mv
theorem RelP.step (s : Step ρ ρ' H H') {d : D} {v : V} (h : RelP G ρ H d v) : RelP G ρ' H' d v := h.mv s.mv
theorem RelPs.step (s : Step ρ ρ' H H') {d : List D} {v : List V} (h : RelPs G ρ H d v) : RelPs G ρ' H' d v := h.mv s.mv
theorem RelPk.step (s : Step ρ ρ' H H') {d : List (Key × D)} {v : List (Key × V)} (h : RelPk G ρ H d v) : RelPk G ρ' H' d v := h.mv s.mv
theorem RelPf.step (s : Step ρ ρ' H H') {d : List (Str × D)} {v : List (Str × V)} (h : RelPf G ρ H d v) : RelPf G ρ' H' d v := h.mv s.mv
theorem RelPt.step (s : Step ρ ρ' H H') {d : List (List Key × D)} {v : List (List Key × V)} (h : RelPt G ρ H d v) : RelPt G ρ' H' d v := h.mv s.mv
theorem EnvR.step {W : Cw} {env : Env} {σ : St} (h : EnvR G ρ H W env σ) (s : Step ρ ρ' H H') : EnvR G ρ' H' W env σ :=
  ⟨h.len, fun i d e => let ⟨v, a, b⟩ := h.at_ i d e; ⟨v, a, b.step s⟩, fun k e => let ⟨a, b, fs', c, d⟩ := h.hx k e; ⟨a, s.notin c b, fs', s.keep' c b, d.step s⟩⟩
theorem RelPs.length : ∀ {d : List D} {v : List V}, RelPs G ρ H d v → d.length = v.length
  | [], _, h => by
    cases h
    rfl
  | _ :: _, _, h => by
    obtain ⟨v, t, rfl, _, h2⟩ := h
    exact congrArg Nat.succ (RelPs.length h2)
theorem RelPs.get : ∀ {d : List D} {v : List V} {i : Nat} {x : D}, RelPs G ρ H d v → d[i]? = some x → ∃ y, v[i]? = some y ∧ RelP G ρ H x y
  | [], _, i, x, _, e => by simp at e
  | _ :: _, _, 0, x, h, e => by
    obtain ⟨v, t, rfl, h1, h2⟩ := h
    simp only [List.getElem?_cons_zero, Option.some.injEq] at e
    subst e
    exact ⟨v, by simp, h1⟩
  | _ :: _, _, i + 1, x, h, e => by
    obtain ⟨v, t, rfl, h1, h2⟩ := h
    simp only [List.getElem?_cons_succ] at e ⊢
    exact RelPs.get h2 e
theorem RelPs.append : ∀ {d e : List D} {v u : List V}, RelPs G ρ H d v → RelPs G ρ H e u → RelPs G ρ H (d ++ e) (v ++ u)
  | [], _, _, _, h, q => by
    cases h
    exact q
  | _ :: _, _, _, _, h, q => by
    obtain ⟨v, t, rfl, h1, h2⟩ := h
    exact ⟨v, t ++ _, rfl, h1, h2.append q⟩
theorem RelPs.take : ∀ {d : List D} {v : List V} (n : Nat), RelPs G ρ H d v → RelPs G ρ H (d.take n) (v.take n)
  | _, _, 0, _ => rfl
  | [], _, _ + 1, h => by
    cases h
    rfl
  | _ :: _, _, n + 1, h => by
    obtain ⟨v, t, rfl, h1, h2⟩ := h
    exact ⟨v, _, rfl, h1, h2.take n⟩
theorem RelPs.drop : ∀ {d : List D} {v : List V} (n : Nat), RelPs G ρ H d v → RelPs G ρ H (d.drop n) (v.drop n)
  | _, _, 0, h => h
  | [], _, _ + 1, h => by
    cases h
    rfl
  | _ :: _, _, n + 1, h => by
    obtain ⟨v, t, rfl, h1, h2⟩ := h
    exact h2.drop n
theorem RelPs.set : ∀ {d : List D} {v : List V} {x : D} {y : V} (i : Nat), RelPs G ρ H d v → RelP G ρ H x y → RelPs G ρ H (d.set i x) (v.set i y)
  | [], _, _, _, _, h, _ => by
    cases h
    rfl
  | _ :: _, _, _, _, 0, h, q => by
    obtain ⟨v, t, rfl, h1, h2⟩ := h
    exact ⟨_, t, rfl, q, h2⟩
  | _ :: _, _, _, _, i + 1, h, q => by
    obtain ⟨v, t, rfl, h1, h2⟩ := h
    exact ⟨v, _, rfl, h1, h2.set i q⟩
theorem AtL.sq {a : Addr} {vs : List V} (h : AtL G ρ H a vs) : SqL G.K H a vs := by
  rcases h with ⟨_, h⟩ | h
  · exact .inl h
  · exact h.sq H
theorem AtT.sq {a : Addr} {vs : List V} (h : AtT G ρ H a vs) : SqT G.K H a vs := by
  rcases h with ⟨_, h⟩ | h
  · exact .inl h
  · exact h.sq H
theorem AtL.of {a : Addr} {vs : List V} (h : H a = some (.lst vs)) (n : a ∉ ρ) : AtL G ρ H a vs := .inl ⟨n, .inl h⟩
theorem AtT.of {a : Addr} {vs : List V} (h : H a = some (.tup vs)) (n : a ∉ ρ) : AtT G ρ H a vs := .inl ⟨n, .inl h⟩
/-- a list by value or at a location -/
theorem relPs_ints : ∀ ns : List Int, RelPs G ρ H (ns.map D.int) (ns.map V.int)
  | [] => rfl
  | n :: r => ⟨.int n, r.map V.int, rfl, rfl, relPs_ints r⟩
theorem Rel.lstX {st : Sto} (r : Rel G ρ H st) {d : D} {v : V} {xs : List D} (h : RelP G ρ H d v) (e : lstX st d = some xs) : ∃ a vs, v = .ref a ∧ H a = some (.lst vs) ∧ RelPs G ρ H xs vs := by
  cases d with
  | lst ys =>
    obtain ⟨a, vs, e1, n, h1, h2⟩ := h
    cases e
    exact ⟨a, vs, e1, h1, h2⟩
  | ref l =>
    obtain ⟨a, h1, e1⟩ := h
    have e2 : (match st[l]? with
      | some (.lst xs) => some xs
      | _ => none) = some xs := e
    cases q : st[l]? with
    | none =>
      rw [q] at e2
      cases e2
    | some o =>
      rw [q] at e2
      cases o with
      | lst ys =>
        cases e2
        obtain ⟨vs, h3, h4⟩ := r.at_ l _ a q h1
        exact ⟨a, vs, e1, h3, h4⟩
      | _ => cases e2
  | _ => cases e
theorem Rel.lst {st : Sto} (r : Rel G ρ H st) {d : D} {v : V} {xs : List D} (h : RelP G ρ H d v) (e : lstOf st d = some xs) : ∃ a vs, v = .ref a ∧ SqL G.K H a vs ∧ RelPs G ρ H xs vs := by
  cases d with
  | scr ns =>
    obtain ⟨a, e1, h1⟩ := h
    cases e
    exact ⟨a, _, e1, h1.sq, relPs_ints ns⟩
  | lst ys =>
    obtain ⟨a, vs, e1, n, h1, h2⟩ := h
    cases e
    exact ⟨a, vs, e1, SqL.of h1, h2⟩
  | ref l =>
    obtain ⟨a, h1, e1⟩ := h
    have e2 : (match st[l]? with
      | some (.lst xs) => some xs
      | _ => none) = some xs := e
    cases q : st[l]? with
    | none =>
      rw [q] at e2
      cases e2
    | some o =>
      rw [q] at e2
      cases o with
      | lst ys =>
        cases e2
        obtain ⟨vs, h3, h4⟩ := r.at_ l _ a q h1
        exact ⟨a, vs, e1, SqL.of h3, h4⟩
      | _ => cases e2
  | _ => cases e
theorem Rel.seq {st : Sto} (r : Rel G ρ H st) {d : D} {v : V} {xs : List D} (h : RelP G ρ H d v) (e : seqOf st d = some xs) : ∃ a vs, v = .ref a ∧ (SqL G.K H a vs ∨ SqT G.K H a vs) ∧ RelPs G ρ H xs vs := by
  cases d with
  | tup ys =>
    obtain ⟨a, vs, e1, h1, h2⟩ := h
    cases e
    exact ⟨a, vs, e1, .inr h1.sq, h2⟩
  | _ =>
    obtain ⟨a, vs, e1, h1, h2⟩ := r.lst h (show lstOf st _ = some xs from e)
    exact ⟨a, vs, e1, .inl h1, h2⟩
theorem Rel.obj {st : Sto} (r : Rel G ρ H st) {d : D} {v : V} {C : Str} {fs : List (Str × D)} (h : RelP G ρ H d v) (e : objOf st d = some (C, fs)) : ∃ a dx fs', v = .ref a ∧ H a = some (.ins (G.cA C) dx fs') ∧ RelPf G ρ H fs fs' := by
  cases d with
  | obj C' gs =>
    obtain ⟨a, dx, fs', e1, n, h1, h2⟩ := h
    cases e
    exact ⟨a, dx, fs', e1, h1, h2⟩
  | ref l =>
    obtain ⟨a, h1, e1⟩ := h
    have e2 : (match st[l]? with
      | some (.ins C fs) => some (C, fs)
      | _ => none) = some (C, fs) := e
    cases q : st[l]? with
    | none =>
      rw [q] at e2
      cases e2
    | some o =>
      rw [q] at e2
      cases o with
      | ins C' gs =>
        cases e2
        obtain ⟨dx, fs', h3, h4⟩ := r.at_ l _ a q h1
        exact ⟨a, dx, fs', e1, h3, h4⟩
      | _ => cases e2
  | _ => cases e
theorem RelPf.look : ∀ {fs : List (Str × D)} {fs' : List (Str × V)} {f : Str} {d : D}, RelPf G ρ H fs fs' → getD' f fs = some d → ∃ v, fs'.lookup f = some v ∧ RelP G ρ H d v
  | [], _, f, d, _, e => by cases e
  | (k, x) :: r, _, f, d, h, e => by
    obtain ⟨v, t, rfl, h1, h2⟩ := h
    have e2 : (if k = f then some x else getD' f r) = some d := e
    by_cases q : k = f
    · subst q
      rw [if_pos rfl] at e2
      cases e2
      exact ⟨v, by simp [List.lookup], h1⟩
    · rw [if_neg q] at e2
      obtain ⟨u, h3, h4⟩ := RelPf.look h2 e2
      have qb : (f == k) = false := by simpa using fun z => q z.symm
      exact ⟨u, by simp [List.lookup, qb, h3], h4⟩
theorem RelPf.no : ∀ {fs : List (Str × D)} {fs' : List (Str × V)} {f : Str}, RelPf G ρ H fs fs' → hasD f fs = false → fs'.lookup f = none
  | [], _, f, h, _ => by
    cases h
    rfl
  | (k, x) :: r, _, f, h, e => by
    obtain ⟨v, t, rfl, h1, h2⟩ := h
    have e2 : (if k = f then some x else getD' f r).isSome = false := e
    by_cases q : k = f
    · rw [if_pos q] at e2
      cases e2
    · rw [if_neg q] at e2
      have qb : (f == k) = false := by simpa using fun z => q z.symm
      have := RelPf.no (f := f) h2 e2
      simp [List.lookup, qb, this]
theorem RelPf.put : ∀ {fs : List (Str × D)} {fs' : List (Str × V)} {f : Str} {d : D} {v : V}, RelPf G ρ H fs fs' → RelP G ρ H d v → RelPf G ρ H (setF f d fs) (putF f v fs')
  | [], _, f, d, v, h, q => by
    cases h
    exact ⟨v, [], rfl, q, rfl⟩
  | (k, x) :: r, _, f, d, v, h, q => by
    obtain ⟨u, t, rfl, h1, h2⟩ := h
    show RelPf G ρ H (if k = f then (k, d) :: r else (k, x) :: setF f d r) (putF f v ((k, u) :: t))
    unfold putF
    by_cases e : k = f
    · rw [if_pos e, if_pos e]
      exact ⟨v, t, by first | rfl | (rw [e]), q, h2⟩
    · rw [if_neg e, if_neg e]
      exact ⟨u, _, rfl, h1, h2.put q⟩
theorem RelPf.length : ∀ {d : List (Str × D)} {v : List (Str × V)}, RelPf G ρ H d v → d.length = v.length
  | [], _, h => by
    cases h
    rfl
  | (_, _) :: _, _, h => by
    obtain ⟨v, t, rfl, _, h2⟩ := h
    exact congrArg Nat.succ (RelPf.length h2)
end
end Mp
end
section
set_option Elab.async false
set_option linter.all false
set_option maxRecDepth 100000
/-! Mp: the readings by the evaluator, and how they go together. -/
namespace Mp
open PySem L2

/-- an exception as it lies: its dict -/
def ExR (G : Cfg) (ρ : Lo) (H : Hp) (x : Ex) (dd : Addr) (fs' : List (Str × V)) : Prop :=
  dd ∉ ρ ∧ H dd = some (.xd fs') ∧ RelPf G ρ H x.fs fs'
def PostG {α β : Type} (G : Cfg) (rel : Lo → Hp → α → β → Prop) (ρ : Lo) (H : Hp) (W : Cw) (σ : St) (Q : β → Hp → Prop) : R α → Sto → Prop
  | .ok d, st' => ∀ ρ' H' v, Step ρ ρ' H H' → Rel G ρ' H' st' → rel ρ' H' d v → Q v H'
  | .ex x, st' => ∀ ρ' H' dd fs', Step ρ ρ' H H' → Rel G ρ' H' st' → ExR G ρ' H' x dd fs' → W.x (.ref (G.cA x.cls)) (some dd) σ H'
def tG {α β : Type} (G : Cfg) (W : Cw) (rel : Lo → Hp → α → β → Prop) (m : Env → M α) : St → Hp → (β → Hp → Prop) → Prop := fun σ H Q =>
  ∃ ρ st env r st', Rel G ρ H st ∧ EnvR G ρ H W env σ ∧ m env st = some (r, st') ∧ PostG G rel ρ H W σ Q r st'
def relB : Lo → Hp → Bool → Bool → Prop := fun _ _ a b => a = b
def testM (O : Orc) (p : PX) (env : Env) : M Bool := (evE O p env).bind fun x => onSt fun st => truth st x
abbrev tE (G : Cfg) (W : Cw) (O : Orc) (p : PX) : TE := tG G W (RelP G) (evE O p)
abbrev tA (G : Cfg) (W : Cw) (O : Orc) (ps : List PX) : TA := tG G W (RelPs G) (evEs O ps)
abbrev tT (G : Cfg) (W : Cw) (O : Orc) (p : PX) : TT := tG G W relB (testM O p)
section
variable {α β γ δ : Type} {G : Cfg} {W : Cw} {ρ ρ1 : Lo} {H H1 : Hp} {σ : St} {st st' : Sto} {env : Env}
theorem PostG.step {rel : Lo → Hp → α → β → Prop} {Q : β → Hp → Prop} {r : R α} (h : PostG G rel ρ H W σ Q r st') (s : Step ρ ρ1 H H1) : PostG G rel ρ1 H1 W σ Q r st' := by
  cases r with
  | ok d => exact fun ρ' H' v s' => h ρ' H' v (s.trans s')
  | ex x => exact fun ρ' H' dd fs' s' => h ρ' H' dd fs' (s.trans s')
theorem tG_bind {rel1 : Lo → Hp → α → β → Prop} {rel2 : Lo → Hp → γ → δ → Prop} {m : Env → M α} {f : α → M γ} {r : R γ} {Q : δ → Hp → Prop} {K : β → Hp → Prop}
    (hr : Rel G ρ H st) (he : EnvR G ρ H W env σ) (ev : ((m env).bind f) st = some (r, st')) (hp : PostG G rel2 ρ H W σ Q r st')
    (k : ∀ x s1 ρ1 H1 v, m env st = some (.ok x, s1) → f x s1 = some (r, st') → Step ρ ρ1 H H1 → Rel G ρ1 H1 s1 → rel1 ρ1 H1 x v → EnvR G ρ1 H1 W env σ → PostG G rel2 ρ1 H1 W σ Q r st' → K v H1) : tG G W rel1 m σ H K := by
  have ev2 : (match m env st with
    | none => none
    | some (.ok a, s') => f a s'
    | some (.ex x, s') => some (.ex x, s')) = some (r, st') := ev
  cases e : m env st with
  | none =>
    rw [e] at ev2
    cases ev2
  | some q =>
    obtain ⟨r1, s1⟩ := q
    rw [e] at ev2
    cases r1 with
    | ok x => exact ⟨ρ, st, env, .ok x, s1, hr, he, e, fun ρ1 H1 v s rel rp => k x s1 ρ1 H1 v e ev2 s rel rp (he.step s) (hp.step s)⟩
    | ex x =>
      cases ev2
      exact ⟨ρ, st, env, .ex x, st', hr, he, e, hp⟩
theorem M.bind_assoc {m : M α} {f : α → M β} {g : β → M γ} : ((m.bind f).bind g) = m.bind fun x => (f x).bind g := by
  funext s
  show (match (match m s with
    | none => none
    | some (.ok a, s') => f a s'
    | some (.ex x, s') => some (.ex x, s')) with
    | none => none
    | some (.ok a, s') => g a s'
    | some (.ex x, s') => some (.ex x, s')) = (match m s with
    | none => none
    | some (.ok a, s') => (f a).bind g s'
    | some (.ex x, s') => some (.ex x, s'))
  cases m s with
  | none => rfl
  | some q =>
    obtain ⟨r, s'⟩ := q
    cases r <;> rfl
theorem bind_some {m : M α} {f : α → M β} {r : R β} (h : m.bind f st = some (r, st')) : (∃ a s1, m st = some (.ok a, s1) ∧ f a s1 = some (r, st')) ∨ ∃ x, m st = some (.ex x, st') ∧ r = .ex x := by
  have h2 : (match m st with
    | none => none
    | some (.ok a, s') => f a s'
    | some (.ex x, s') => some (.ex x, s')) = some (r, st') := h
  cases e : m st with
  | none =>
    rw [e] at h2
    cases h2
  | some q =>
    obtain ⟨r1, s1⟩ := q
    rw [e] at h2
    cases r1 with
    | ok a => exact .inl ⟨a, s1, rfl, h2⟩
    | ex x =>
      cases h2
      exact .inr ⟨x, rfl, rfl⟩
theorem onSt_of {f : Sto → Option α} {r : R α} (h : onSt f st = some (r, st')) : ∃ a, f st = some a ∧ r = .ok a ∧ st' = st := by
  have h2 : (match f st with
    | some a => some (R.ok a, st)
    | none => none) = some (r, st') := h
  cases e : f st with
  | none =>
    rw [e] at h2
    cases h2
  | some a =>
    rw [e] at h2
    cases h2
    exact ⟨a, rfl, rfl, rfl⟩
theorem ok_of {a : α} {r : R α} (h : M.ok a st = some (r, st')) : r = .ok a ∧ st' = st := by
  cases h
  exact ⟨rfl, rfl⟩
theorem lift_of {o : Option α} {r : R α} (h : M.lift o st = some (r, st')) : ∃ a, o = some a ∧ r = .ok a ∧ st' = st := by
  cases o with
  | none => cases h
  | some a =>
    cases h
    exact ⟨a, rfl, rfl, rfl⟩
/-- an address of a location is tracked -/
theorem Rel.there (r : Rel G ρ H st) {a : Addr} (h : a ∈ ρ) : ∃ o, H a = some o := by
  rcases h with h | h
  · obtain ⟨l, hl, e⟩ := List.mem_iff_getElem.mp h
    have h1 : ρ.l[l]? = some a := by rw [List.getElem?_eq_getElem hl, e]
    have hl2 : l < st.length := by rw [← r.len]; exact hl
    have q := r.at_ l st[l] a (List.getElem?_eq_getElem hl2) h1
    cases e2 : st[l] with
    | lst xs =>
      rw [e2] at q
      obtain ⟨vs, h3, _⟩ := q
      exact ⟨_, h3⟩
    | dk xs =>
      rw [e2] at q
      obtain ⟨vs, h3, _⟩ := q
      exact ⟨_, h3⟩
    | dt xs =>
      rw [e2] at q
      obtain ⟨vs, h3, _⟩ := q
      exact ⟨_, h3⟩
    | ins C fs =>
      rw [e2] at q
      obtain ⟨dx, vs, h3, _⟩ := q
      exact ⟨_, h3⟩
  · exact (r.zs a h).2
theorem Rel.notin (r : Rel G ρ H st) {a : Addr} (h : H a = none) : a ∉ ρ := fun q => by
  obtain ⟨o, e⟩ := r.there q
  rw [h] at e
  cases e
theorem RelOb.stay {a : Addr} {o : Ob} (h : RelOb G ρ H a o) (s : Step ρ ρ1 H H1) (k : H1 a = H a) : RelOb G ρ1 H1 a o := by
  cases o with
  | lst xs =>
    obtain ⟨vs, h3, h4⟩ := h
    exact ⟨vs, k.trans h3, h4.step s⟩
  | dk xs =>
    obtain ⟨vs, h3, h4⟩ := h
    exact ⟨vs, k.trans h3, h4.step s⟩
  | dt xs =>
    obtain ⟨vs, h3, h4⟩ := h
    exact ⟨vs, k.trans h3, h4.step s⟩
  | ins C fs =>
    obtain ⟨dx, vs, h3, h4⟩ := h
    exact ⟨dx, vs, k.trans h3, h4.step s⟩
theorem RelOb.mv {a : Addr} {o : Ob} (h : RelOb G ρ H a o) (s : Mv ρ ρ1 H H1) (k : H1 a = H a) : RelOb G ρ1 H1 a o := by
  cases o with
  | lst xs =>
    obtain ⟨vs, h3, h4⟩ := h
    exact ⟨vs, k.trans h3, h4.mv s⟩
  | dk xs =>
    obtain ⟨vs, h3, h4⟩ := h
    exact ⟨vs, k.trans h3, h4.mv s⟩
  | dt xs =>
    obtain ⟨vs, h3, h4⟩ := h
    exact ⟨vs, k.trans h3, h4.mv s⟩
  | ins C fs =>
    obtain ⟨dx, vs, h3, h4⟩ := h
    exact ⟨dx, vs, k.trans h3, h4.mv s⟩
theorem Rel.stay (r : Rel G ρ H st) (s : Step ρ ρ H H1) (k : ∀ a ∈ ρ.l, H1 a = H a) : Rel G ρ H1 st :=
  ⟨r.len, r.nd, fun a h => let ⟨n, o, e⟩ := r.zs a h; ⟨n, (s.keep a o e n).there⟩, fun l o a e1 e2 => (r.at_ l o a e1 e2).stay s (k a (List.mem_of_getElem? e2))⟩
theorem step_new {p : Addr} {o : HO} (h : H p = none) : Step ρ ρ H (upd H p o) :=
  ⟨⟨[], by simp⟩, rfl, fun a h n => absurd h n, fun a u e _ => .inl (by rw [upd_ne (ne_of_none e h)]; exact e)⟩
theorem Rel.new (r : Rel G ρ H st) {p : Addr} {o : HO} (h : H p = none) : Rel G ρ (upd H p o) st :=
  r.stay (step_new h) fun a ha => upd_ne fun e => by
    obtain ⟨u, q⟩ := r.there (.inl ha)
    rw [e, h] at q
    cases q
end
section
variable {X : Cx}
theorem PE_imp {e : Expr} {t t' : TE} (h : PE X e t) (hi : ∀ σ H Q, t' σ H Q → t σ H Q) : PE X e t' := ⟨fun pins s σ H Q I q => h.run pins s σ H Q I (hi σ H Q q)⟩
theorem PT_imp {e : Expr} {t t' : TT} (h : PT X e t) (hi : ∀ σ H Q, t' σ H Q → t σ H Q) : PT X e t' := ⟨fun pins s σ H Q I q => h.run pins s σ H Q I (hi σ H Q q)⟩
theorem PA_imp {es : List Expr} {t t' : TA} (h : PA X es t) (hi : ∀ σ H Q, t' σ H Q → t σ H Q) : PA X es t' := ⟨fun pos pins s σ H Q I q => h.run pos pins s σ H Q I (hi σ H Q q)⟩
theorem PS_imp {e : Stmt} {t t' : TS} (h : PS X e t) (hi : ∀ D σ H, t' D σ H → t D σ H) : PS X e t' := ⟨fun pins s σ H D I q => h.run pins s σ H D I (hi D σ H q)⟩
theorem PSs_imp {e : List Stmt} {t t' : TS} (h : PSs X e t) (hi : ∀ D σ H, t' D σ H → t D σ H) : PSs X e t' := ⟨fun pins s σ H D I q => h.run pins s σ H D I (hi D σ H q)⟩
end
end Mp
end
section
set_option Elab.async false
set_option linter.all false
set_option maxRecDepth 100000
set_option maxHeartbeats 1000000
/-! Mp: the operations by values. -/
namespace Mp
open PySem L2

/-- a two-place operation on trees -/
def rD (G : Cfg) (g : Sto → D → D → Option D) : R2 := fun v u H Q => ∃ ρ st x y d, Rel G ρ H st ∧ RelP G ρ H x v ∧ RelP G ρ H y u ∧ g st x y = some d ∧
  ∀ ρ' H' w, Step ρ ρ' H H' → Rel G ρ' H' st → RelP G ρ' H' d w → Q w H'
def bopOp : BOp → Operator
  | .add => .Add
  | .sub => .Sub
  | .mul => .Mult
  | .fdiv => .FloorDiv
  | .mod => .Mod
  | .pow => .Pow
def cmpOp : COp → CmpOp
  | .eq => .Eq
  | .ne => .NotEq
  | .lt => .Lt
  | .le => .LtE
  | .gt => .Gt
  | .ge => .GtE
  | .isin => .In
  | .notin => .NotIn
  | .is_ => .Is
  | .isnot => .IsNot
section
variable {G : Cfg} {ρ : Lo} {H : Hp} {st : Sto}
theorem line_le {n : Nat} (h : n ≤ 16777216) : n ≤ sizeLine := by
  rw [sizeLine_eq]
  exact h
theorem line_lt {n : Nat} (h : n < 16777216) : n < sizeLine := by
  rw [sizeLine_eq]
  exact h
theorem pd_int_of {v : V} {i : Int} (h : RelP G ρ H (.int i) v) : v = .int i := h
mutual
theorem pd_ok : ∀ {d : D} {v : V} {p : PyData}, RelP G ρ H d v → pd d = some p → Dp G.K H v p
  | .non, _, _, h, e => by
    cases h
    cases e
    exact .non
  | .bl b, _, _, h, e => by
    cases h
    cases e
    exact .bl b
  | .int b, _, _, h, e => by
    cases h
    cases e
    exact .int b
  | .str b, _, _, h, e => by
    cases h
    cases e
    exact .str b
  | .tup xs, _, _, h, e => by
    obtain ⟨a, vs, rfl, h1, h2⟩ := h
    have e2 : (pd.pds xs).map PyData.tuple = some _ := e
    obtain ⟨ps, e3, e4⟩ := Option.map_eq_some_iff.mp e2
    subst e4
    exact .tup h1.sq (pds_ok h2 e3)
  | .lst xs, _, _, h, e => by
    obtain ⟨a, vs, rfl, n, h1, h2⟩ := h
    have e2 : (pd.pds xs).map PyData.list = some _ := e
    obtain ⟨ps, e3, e4⟩ := Option.map_eq_some_iff.mp e2
    subst e4
    exact .lst (SqL.of h1) (pds_ok h2 e3)
  | .dct _, _, _, _, e => by cases e
  | .obj _ _, _, _, _, e => by cases e
  | .ref _, _, _, _, e => by cases e
  | .fn _, _, _, _, e => by cases e
  | .scr _, _, _, _, e => by cases e
  | .wd _, _, _, _, e => by cases e
theorem pds_ok : ∀ {ds : List D} {vs : List V} {ps : List PyData}, RelPs G ρ H ds vs → pd.pds ds = some ps → DpAll G.K H vs ps
  | [], _, _, h, e => by
    cases h
    cases e
    exact .nil
  | d :: r, _, _, h, e => by
    obtain ⟨v, t, rfl, h1, h2⟩ := h
    have e2 : (match pd d, pd.pds r with
      | some y, some t => some (y :: t)
      | _, _ => none) = some _ := e
    cases q1 : pd d with
    | none =>
      rw [q1] at e2
      cases e2
    | some y =>
      cases q2 : pd.pds r with
      | none =>
        rw [q1, q2] at e2
        cases e2
      | some t =>
        rw [q1, q2] at e2
        cases e2
        exact .cons (pd_ok h1 q1) (pds_ok h2 q2)
end
theorem pdT_ok (r : Rel G ρ H st) {d : D} {v : V} {p : PyData} (h : RelP G ρ H d v) (e : pdT st d = some p) : Dp G.K H v p := by
  unfold pdT at e
  cases q : lstOf st d with
  | none =>
    rw [q] at e
    exact pd_ok h e
  | some xs =>
    rw [q] at e
    obtain ⟨a, vs, rfl, h1, h2⟩ := r.lst h q
    have e2 : (pd.pds xs).map PyData.list = some p := e
    obtain ⟨ps, e3, e4⟩ := Option.map_eq_some_iff.mp e2
    subst e4
    exact .lst h1 (pds_ok h2 e3)
theorem flat_ok {d : D} {v : V} (h : RelP G ρ H d v) (e : isFlat d = true) : flatV v = true := by
  cases d <;> first | (cases h; rfl) | (cases e)
theorem flats_ok : ∀ {ds : List D} {vs : List V}, RelPs G ρ H ds vs → ds.all isFlat = true → vs.all flatV = true
  | [], _, h, _ => by
    cases h
    rfl
  | d :: r, _, h, e => by
    obtain ⟨v, t, rfl, h1, h2⟩ := h
    rw [List.all_cons, Bool.and_eq_true] at e
    rw [List.all_cons, flat_ok h1 e.1, flats_ok h2 e.2]
    rfl
theorem eqF_ok {x y : D} {v u : V} (h : RelP G ρ H x v) (h' : RelP G ρ H y u) (e : isFlat x = true) (e' : isFlat y = true) : eqV v u = eqF x y := by
  cases x <;> first | (cases e; done) | (cases h; cases y <;> first | (cases e'; done) | (cases h'; rfl))
theorem inF_ok {x : D} {v : V} (h : RelP G ρ H x v) (e : isFlat x = true) : ∀ {ds : List D} {vs : List V}, RelPs G ρ H ds vs → ds.all isFlat = true → inV v vs = inF x ds
  | [], _, h, _ => by
    cases h
    rfl
  | d :: r, _, h2, e2 => by
    obtain ⟨u, t, rfl, h3, h4⟩ := h2
    rw [List.all_cons, Bool.and_eq_true] at e2
    have ih := inF_ok h e h4 e2.2
    unfold inV inF at ih ⊢
    rw [List.any_cons, List.any_cons, eqF_ok h3 h e2.1 e, ih]
theorem keyOf_ok {x : D} {v : V} {k : Key} (h : RelP G ρ H x v) (e : keyOf x = some k) : v = kV k := by
  cases x <;> first | (cases e; done) | (cases e; cases h; rfl)
theorem RelPk.val : ∀ {kvs : List (Key × D)} {kvs' : List (Key × V)} (k : Key), RelPk G ρ H kvs kvs' → match getD' k kvs with
    | some d => ∃ v, valV kvs' k = some v ∧ RelP G ρ H d v
    | none => valV kvs' k = none
  | [], _, k, h => by
    cases h
    rfl
  | (j, d) :: r, _, k, h => by
    obtain ⟨v, t, rfl, h1, h2⟩ := h
    have ih := RelPk.val k h2
    show match (if j = k then some d else getD' k r) with
      | some d => ∃ u, valV ((j, v) :: t) k = some u ∧ RelP G ρ H d u
      | none => valV ((j, v) :: t) k = none
    by_cases e : j = k
    · rw [if_pos e]
      exact ⟨v, valV_pos (p := (j, v)) e, h1⟩
    · rw [if_neg e, valV_neg (p := (j, v)) e]
      exact ih
theorem RelPt.val : ∀ {kvs : List (List Key × D)} {kvs' : List (List Key × V)} (k : List Key), RelPt G ρ H kvs kvs' → match getD' k kvs with
    | some d => ∃ v, valV kvs' k = some v ∧ RelP G ρ H d v
    | none => valV kvs' k = none
  | [], _, k, h => by
    cases h
    rfl
  | (j, d) :: r, _, k, h => by
    obtain ⟨v, t, rfl, h1, h2⟩ := h
    have ih := RelPt.val k h2
    show match (if j = k then some d else getD' k r) with
      | some d => ∃ u, valV ((j, v) :: t) k = some u ∧ RelP G ρ H d u
      | none => valV ((j, v) :: t) k = none
    by_cases e : j = k
    · rw [if_pos e]
      exact ⟨v, valV_pos (p := (j, v)) e, h1⟩
    · rw [if_neg e, valV_neg (p := (j, v)) e]
      exact ih
/-- a dict by value or at a location: tracked, or written -/
theorem Rel.dct (r : Rel G ρ H st) {d : D} {v : V} {kvs : List (Key × D)} (h : RelP G ρ H d v) (e : dctOf st d = some kvs) : ∃ a kvs', v = .ref a ∧ Rd H a (.dK kvs') ∧ RelPk G ρ H kvs kvs' := by
  cases d with
  | dct ks =>
    obtain ⟨a, kvs', e1, h1, h2⟩ := h
    cases e
    exact ⟨a, kvs', e1, h1.2, h2⟩
  | ref l =>
    obtain ⟨a, h1, e1⟩ := h
    have e2 : (match st[l]? with
      | some (.dk kvs) => some kvs
      | _ => none) = some kvs := e
    cases q : st[l]? with
    | none =>
      rw [q] at e2
      cases e2
    | some o =>
      rw [q] at e2
      cases o with
      | dk ys =>
        cases e2
        obtain ⟨vs, h3, h4⟩ := r.at_ l _ a q h1
        exact ⟨a, vs, e1, .inl h3, h4⟩
      | _ => cases e2
  | _ => cases e
end
section
variable {X : Cx} {G : Cfg}
theorem intD_of {f : Int → Int → Option D} {x y d : D} (e : intD f x y = some d) : ∃ i j, x = .int i ∧ y = .int j ∧ f i j = some d := by
  cases x <;> first | (cases e; done) | skip
  cases y <;> first | (cases e; done) | exact ⟨_, _, rfl, rfl, e⟩
theorem op_bop (o : BOp) : OpR X (binaryOp (bopOp o)) (rD G (bopD o)) := by
  intro pins s σ H v u vv uu Q I rv ru h
  obtain ⟨ρ, st, x, y, d, r, hx, hy, e, k⟩ := h
  have fin : ∀ {w : V}, RelP G ρ H d w → Q w H := fun q => k ρ H _ Step.refl r q
  cases o with
  | add =>
    have e : addD st x y = some d := e
    have lists : catD st x y = some d → wpAny (model X.prog X.w) X.A (binaryOp .Add vv uu) (EP X pins σ Q) X.xe s := fun e2 => by
      unfold catD at e2
      split at e2
      · rename_i xs ys q1 q2
        split at e2
        · rename_i hz
          obtain ⟨a, vs, rfl, h1, h2⟩ := r.lstX hx q1
          obtain ⟨b, us, rfl, h3, h4⟩ := r.lstX hy q2
          cases e2
          exact op_cat pins s σ H _ _ vv uu Q I rv ru ⟨a, b, vs, us, rfl, rfl, h1, h3, line_le (by rw [← h2.length, ← h4.length]; exact hz), fun p hp =>
            k ρ _ _ (step_new hp) (r.new hp) ⟨p, _, rfl, r.notin hp, upd_same, (h2.append h4).step (step_new hp)⟩⟩
        · cases e2
      · cases e2
    cases x with
    | int i =>
      cases hx
      cases y with
      | int j =>
        cases hy
        cases e
        exact op_add pins s σ H _ _ vv uu Q I rv ru ⟨i, j, rfl, rfl, fin rfl⟩
      | _ => cases e
    | str i =>
      cases hx
      cases y with
      | str j =>
        cases hy
        have e2 : (if i.length + j.length ≤ 16777216 then some (D.str (i ++ j)) else none) = some d := e
        split at e2
        · rename_i hz
          cases e2
          exact op_add_str pins s σ H _ _ vv uu Q I rv ru ⟨i, j, rfl, rfl, line_le hz, fin rfl⟩
        · cases e2
      | _ => cases e
    | _ => exact lists e
  | sub =>
    obtain ⟨i, j, rfl, rfl, e⟩ := intD_of e
    cases hx
    cases hy
    cases e
    exact op_sub pins s σ H _ _ vv uu Q I rv ru ⟨i, j, rfl, rfl, fin rfl⟩
  | mul =>
    obtain ⟨i, j, rfl, rfl, e2⟩ := intD_of e
    cases hx
    cases hy
    split at e2
    · rename_i hz
      cases e2
      exact op_mul pins s σ H _ _ vv uu Q I rv ru ⟨i, j, rfl, rfl, hz, fin rfl⟩
    · cases e2
  | fdiv =>
    obtain ⟨i, j, rfl, rfl, e2⟩ := intD_of e
    cases hx
    cases hy
    split at e2
    · rename_i hz
      cases e2
      exact op_fdiv pins s σ H _ _ vv uu Q I rv ru ⟨i, j, rfl, rfl, hz, fin rfl⟩
    · cases e2
  | mod =>
    obtain ⟨i, j, rfl, rfl, e2⟩ := intD_of e
    cases hx
    cases hy
    split at e2
    · rename_i hz
      cases e2
      exact op_mod pins s σ H _ _ vv uu Q I rv ru ⟨i, j, rfl, rfl, hz, fin rfl⟩
    · cases e2
  | pow =>
    obtain ⟨i, j, rfl, rfl, e2⟩ := intD_of e
    cases hx
    cases hy
    split at e2
    · rename_i hz
      cases e2
      exact op_pow pins s σ H _ _ vv uu Q I rv ru ⟨i, j, rfl, rfl, ⟨hz.1, hz.2.1, hz.2.2⟩, fin rfl⟩
    · cases e2
/-! ### comparisons -/
theorem op_din (hu : X.A.units + 1 < cLine) : OpR X (compareOp .In) (fun x y H Q => ∃ a o, y = .ref a ∧ DGet H a x o ∧ Q (.bl o.isSome) H) := by
  intro pins s σ H x y v u Q I rx ry h
  obtain ⟨a, o, rfl, g, q⟩ := h
  cases ry
  exact d_in hu I g rx fun s' I' => ⟨.bl _, H, I', rfl, q⟩
theorem op_dnotin (hu : X.A.units + 1 < cLine) : OpR X (compareOp .NotIn) (fun x y H Q => ∃ a o, y = .ref a ∧ DGet H a x o ∧ Q (.bl (!o.isSome)) H) := by
  intro pins s σ H x y v u Q I rx ry h
  obtain ⟨a, o, rfl, g, q⟩ := h
  cases ry
  exact d_notIn hu I g rx fun s' I' => ⟨.bl _, H, I', rfl, q⟩
theorem scal_ok {ρ : Lo} {H : Hp} {x y : D} {v u : V} (hx : RelP G ρ H x v) (hy : RelP G ρ H y u) (e : scalD x y = true) : scal v u = true ∧ decide (v = u) = eqS x y := by
  cases x <;> first | (cases y <;> first | (cases e; done) | (cases hx; cases hy; exact ⟨rfl, by first | rfl | (simp [eqS]; done)⟩)) | (cases e)
theorem eqD_op (hu : X.A.units + 64 < cLine) {pins : List (Addr × Obj)} {s : Shared} {σ : St} {H : Hp} {v u : V} {vv uu : Value} {Q : VK} (I : Inv X pins σ H s) (rv : RelV v vv) (ru : RelV u uu) {ρ : Lo} {st : Sto} {x y : D} {b : Bool}
    (r : Rel G ρ H st) (hx : RelP G ρ H x v) (hy : RelP G ρ H y u) (e : eqD st x y = some b) (hK : X.K = G.K) :
    (Q (.bl b) H → wpAny (model X.prog X.w) X.A (compareOp .Eq vv uu) (EP X pins σ Q) X.xe s) ∧ (Q (.bl (!b)) H → wpAny (model X.prog X.w) X.A (compareOp .NotEq vv uu) (EP X pins σ Q) X.xe s) := by
  unfold eqD at e
  split at e
  · rename_i hs
    cases e
    obtain ⟨h1, h2⟩ := scal_ok hx hy hs
    exact ⟨fun q => op_eq pins s σ H v u vv uu Q I rv ru ⟨h1, by rw [h2]; exact q⟩, fun q => op_ne pins s σ H v u vv uu Q I rv ru ⟨h1, by rw [h2]; exact q⟩⟩
  · split at e
    · rename_i d e' q1 q2
      split at e
      · rename_i hz
        cases e
        have d1 : Dp X.K H v d := by rw [hK]; exact pdT_ok r hx q1
        have d2 : Dp X.K H u e' := by rw [hK]; exact pdT_ok r hy q2
        exact ⟨fun q => op_eqD hu pins s σ H v u vv uu Q I rv ru ⟨d, e', d1, d2, hz.1, hz.2, q⟩, fun q => op_neD hu pins s σ H v u vv uu Q I rv ru ⟨d, e', d1, d2, hz.1, hz.2, q⟩⟩
      · cases e
    · cases e
theorem isin_op (hu : X.A.units + 1 < cLine) {pins : List (Addr × Obj)} {s : Shared} {σ : St} {H : Hp} {v u : V} {vv uu : Value} {Q : VK} (I : Inv X pins σ H s) (rv : RelV v vv) (ru : RelV u uu) {ρ : Lo} {st : Sto} {x y : D} {b : Bool}
    (r : Rel G ρ H st) (hx : RelP G ρ H x v) (hy : RelP G ρ H y u) (e : cmpD.isin st x y = some b) (hK : X.K = G.K) (hw : X.w = G.w) :
    (Q (.bl b) H → wpAny (model X.prog X.w) X.A (compareOp .In vv uu) (EP X pins σ Q) X.xe s) ∧ (Q (.bl (!b)) H → wpAny (model X.prog X.w) X.A (compareOp .NotIn vv uu) (EP X pins σ Q) X.xe s) := by
  have rest : (match seqOf st y with
      | some xs => if isFlat x = true ∧ xs.all isFlat = true then some (inF x xs) else none
      | none => (match dctOf st y, keyOf x with
        | some kvs, some k => some (hasD k kvs)
        | _, _ => none)) = some b → (Q (.bl b) H → wpAny (model X.prog X.w) X.A (compareOp .In vv uu) (EP X pins σ Q) X.xe s) ∧ (Q (.bl (!b)) H → wpAny (model X.prog X.w) X.A (compareOp .NotIn vv uu) (EP X pins σ Q) X.xe s) := fun e => by
    split at e
    · rename_i xs q1
      split at e
      · rename_i hz
        cases e
        obtain ⟨a, vs, rfl, h1, h2⟩ := r.seq hy q1
        have f1 := flat_ok hx hz.1
        have f2 := flats_ok h2 hz.2
        have f3 := inF_ok hx hz.1 h2 hz.2
        rw [← hK] at h1
        exact ⟨fun q => op_in_seq pins s σ H v _ vv uu Q I rv ru ⟨a, vs, rfl, h1, f1, f2, by rw [f3]; exact q⟩, fun q => op_notIn_seq pins s σ H v _ vv uu Q I rv ru ⟨a, vs, rfl, h1, f1, f2, by rw [f3]; exact q⟩⟩
      · cases e
    · split at e
      · rename_i kvs k q1 q2
        cases e
        obtain ⟨a, kvs', rfl, h1, h2⟩ := r.dct hy q1
        have hk := keyOf_ok hx q2
        subst hk
        have g : DGet H a (kV k) (valV kvs' k) := .inl ⟨kvs', k, h1, rfl, rfl⟩
        have hb : (valV kvs' k).isSome = hasD k kvs := by
          have z := h2.val k
          unfold hasD
          cases q3 : getD' k kvs with
          | none =>
            rw [q3] at z
            rw [z]
            rfl
          | some d =>
            rw [q3] at z
            obtain ⟨w, z1, _⟩ := z
            rw [z1]
            rfl
        exact ⟨fun q => op_din hu pins s σ H _ _ vv uu Q I rv ru ⟨a, _, rfl, g, by rw [hb]; exact q⟩, fun q => op_dnotin hu pins s σ H _ _ vv uu Q I rv ru ⟨a, _, rfl, g, by rw [hb]; exact q⟩⟩
      · cases e
  cases y with
  | str z =>
    cases hy
    cases x with
    | str i =>
      cases hx
      cases e
      unfold inStr
      split
      · rename_i c hc
        have hi : i = ⟨#[c]⟩ := by
          obtain ⟨cps⟩ := i
          have : cps = #[c] := by
            apply Array.toList_inj.mp
            exact hc
          rw [this]
        subst hi
        exact ⟨fun q => op_in_sign pins s σ H _ _ vv uu Q I rv ru ⟨_, z, rfl, rfl, q⟩, fun q => op_notIn_sign pins s σ H _ _ vv uu Q I rv ru ⟨_, z, rfl, rfl, q⟩⟩
      · exact ⟨fun q => op_in_str pins s σ H _ _ vv uu Q I rv ru ⟨_, z, rfl, rfl, q⟩, fun q => op_notIn_str pins s σ H _ _ vv uu Q I rv ru ⟨_, z, rfl, rfl, q⟩⟩
    | _ => cases e
  | wd fs =>
    obtain ⟨a, fs', rfl, ⟨⟨es, n, kd⟩, hg⟩, h2⟩ := hy
    cases x with
    | str z =>
      cases hx
      cases e
      obtain ⟨rr, g1, g2⟩ := hg z
      have hb : rr.isSome = hasD z fs := by
        cases q3 : getD' z fs with
        | none =>
          have := RelPf.no (f := z) h2 (by unfold hasD; rw [q3]; rfl)
          rw [this] at g2
          rw [g2]
          unfold hasD
          rw [q3]
          rfl
        | some d =>
          obtain ⟨w, z1, _⟩ := h2.look q3
          rw [z1] at g2
          obtain ⟨u, z2, _⟩ := g2
          rw [z2]
          unfold hasD
          rw [q3]
          rfl
      have kd' : KDict X.K X.w a es n := by rw [hK, hw]; exact kd
      have g1' : PySem.W.nsIn X.K a z = some rr := by rw [hK]; exact g1
      exact ⟨fun q => op_in_kd kd' pins s σ H _ _ vv uu Q I rv ru ⟨z, rr, rfl, rfl, g1', by rw [hb]; exact q⟩, fun q => op_notIn_kd kd' pins s σ H _ _ vv uu Q I rv ru ⟨z, rr, rfl, rfl, g1', by rw [hb]; exact q⟩⟩
    | _ => cases e
  | _ => exact rest e
theorem isNon_ok {ρ : Lo} {H : Hp} {x : D} {v : V} (h : RelP G ρ H x v) : decide (v = .non) = isNon x := by
  cases x <;> first | (cases h; rfl) | (obtain ⟨a, h⟩ := h; first | (obtain ⟨_, rfl⟩ := h; rfl) | (obtain ⟨_, rfl, _⟩ := h; rfl) | (obtain ⟨_, _, rfl, _⟩ := h; rfl) | (obtain ⟨rfl, _⟩ := h; rfl)) | skip
theorem op_cmp (hu : X.A.units + 64 < cLine) (hK : X.K = G.K) (hw : X.w = G.w) (o : COp) : OpR X (compareOp (cmpOp o)) (rD G fun st x y => (cmpD o st x y).map D.bl) := by
  intro pins s σ H v u vv uu Q I rv ru h
  obtain ⟨ρ, st, x, y, d, r, hx, hy, e0, k⟩ := h
  obtain ⟨b, e, rfl⟩ := Option.map_eq_some_iff.mp e0
  have q : Q (.bl b) H := k ρ H _ Step.refl r rfl
  have hu1 : X.A.units + 1 < cLine := by omega
  cases o with
  | eq => exact (eqD_op hu I rv ru r hx hy e hK).1 q
  | ne =>
    obtain ⟨b', e3, rfl⟩ := Option.map_eq_some_iff.mp (show (eqD st x y).map (fun b => !b) = some b from e)
    exact (eqD_op hu I rv ru r hx hy e3 hK).2 q
  | isin => exact (isin_op hu1 I rv ru r hx hy e hK hw).1 q
  | notin =>
    obtain ⟨b', e3, rfl⟩ := Option.map_eq_some_iff.mp (show (cmpD.isin st x y).map (fun b => !b) = some b from e)
    exact (isin_op hu1 I rv ru r hx hy e3 hK hw).2 q
  | is_ =>
    have e2 : (if isNon y = true then some (isNon x) else none) = some b := e
    split at e2
    · rename_i hn
      cases e2
      have hy2 := isNon_ok hy
      rw [hn] at hy2
      exact op_isN pins s σ H v u vv uu Q I rv ru ⟨of_decide_eq_true hy2, by rw [isNon_ok hx]; exact q⟩
    · cases e2
  | isnot =>
    have e2 : (if isNon y = true then some (!isNon x) else none) = some b := e
    split at e2
    · rename_i hn
      cases e2
      have hy2 := isNon_ok hy
      rw [hn] at hy2
      exact op_notN pins s σ H v u vv uu Q I rv ru ⟨of_decide_eq_true hy2, by rw [isNon_ok hx]; exact q⟩
    · cases e2
  | lt =>
    cases x <;> first | (cases e; done) | (cases y <;> first | (cases e; done) | (cases hx; cases hy; cases e; first | exact op_lt pins s σ H _ _ vv uu Q I rv ru ⟨_, _, rfl, rfl, q⟩ | exact op_lt_str pins s σ H _ _ vv uu Q I rv ru ⟨_, _, rfl, rfl, q⟩))
  | le =>
    cases x <;> first | (cases e; done) | (cases y <;> first | (cases e; done) | (cases hx; cases hy; cases e; exact op_le pins s σ H _ _ vv uu Q I rv ru ⟨_, _, rfl, rfl, q⟩))
  | gt =>
    cases x <;> first | (cases e; done) | (cases y <;> first | (cases e; done) | (cases hx; cases hy; cases e; exact op_gt pins s σ H _ _ vv uu Q I rv ru ⟨_, _, rfl, rfl, q⟩))
  | ge =>
    cases x <;> first | (cases e; done) | (cases y <;> first | (cases e; done) | (cases hx; cases hy; cases e; exact op_ge pins s σ H _ _ vv uu Q I rv ru ⟨_, _, rfl, rfl, q⟩))
end
end Mp
end
section
set_option Elab.async false
set_option linter.all false
set_option maxRecDepth 100000
set_option maxHeartbeats 1000000
/-! Mp: items, slices, truth, built-ins, methods by values. -/
namespace Mp
open PySem PySem.Spec PyProof.Rows L2

section
variable {G : Cfg} {ρ : Lo} {H : Hp} {st : Sto}
theorem truth_ok (r : Rel G ρ H st) {d : D} {v : V} {b : Bool} (h : RelP G ρ H d v) (e : truth st d = some b) : TruV G.K v H b := by
  cases d with
  | non =>
    cases h
    cases e
    rfl
  | bl k =>
    cases h
    cases e
    rfl
  | int i =>
    cases h
    cases e
    rfl
  | str s =>
    cases h
    have e2 : (if s.length ≤ 16777216 then some ((s.length : Int) != 0) else none) = some b := e
    split at e2
    · rename_i hz
      cases e2
      exact ⟨line_le hz, rfl⟩
    · cases e2
  | tup xs =>
    obtain ⟨a, vs, rfl, h1, h2⟩ := h
    cases e
    refine .inr (.inl ⟨vs, h1.sq, ?_⟩)
    have := h2.length
    cases xs <;> cases vs <;> first | rfl | (simp at this)
  | lst xs =>
    obtain ⟨a, vs, rfl, n, h1, h2⟩ := h
    cases e
    refine .inl ⟨vs, SqL.of h1, ?_⟩
    have := h2.length
    cases xs <;> cases vs <;> first | rfl | (simp at this)
  | ref l =>
    obtain ⟨a, h1, rfl⟩ := h
    have e2 : (match st[l]? with
      | some (.lst xs) => some (!xs.isEmpty)
      | some (.dk kvs) => some (!kvs.isEmpty)
      | _ => none) = some b := e
    cases q : st[l]? with
    | none =>
      rw [q] at e2
      cases e2
    | some o =>
      rw [q] at e2
      cases o with
      | lst xs =>
        cases e2
        obtain ⟨vs, h3, h4⟩ := r.at_ l _ a q h1
        refine .inl ⟨vs, SqL.of h3, ?_⟩
        have := h4.length
        cases xs <;> cases vs <;> first | rfl | (simp at this)
      | dk kvs =>
        cases e2
        obtain ⟨vs, h3, h4⟩ := r.at_ l _ a q h1
        refine .inr (.inr ⟨vs, h3, ?_⟩)
        cases kvs with
        | nil =>
          cases h4
          rfl
        | cons p t =>
          obtain ⟨k, d⟩ := p
          obtain ⟨v, t', rfl, _, _⟩ := h4
          rfl
      | _ => cases e2
  | _ => cases e
theorem atI_get' {α : Type} {xs : List α} {i : Int} {x : α} (h : atI xs i = some x) : ∃ j, ixN xs.length i = some j ∧ xs[j]? = some x := by
  unfold atI at h
  cases e : ixN xs.length i with
  | none =>
    rw [e] at h
    cases h
  | some j =>
    rw [e] at h
    exact ⟨j, rfl, h⟩
theorem RelPs.atI {ds : List D} {vs : List V} {i : Int} {d : D} (h : RelPs G ρ H ds vs) (e : L2.atI ds i = some d) : ∃ v, L2.atI vs i = some v ∧ RelP G ρ H d v := by
  obtain ⟨j, e1, e2⟩ := atI_get' e
  obtain ⟨v, e3, e4⟩ := h.get e2
  refine ⟨v, ?_, e4⟩
  unfold L2.atI
  rw [← h.length, e1]
  exact e3
end
section
variable {X : Cx} {G : Cfg}
theorem ix_dict (hu : X.A.units + 1 < cLine) : IxR X (fun x y H Q => ∃ a v, x = .ref a ∧ DGet H a y (some v) ∧ Q v H) := by
  intro value slice pins s σ H x y v u Q I rx ry h hs
  obtain ⟨a, z, rfl, g, q⟩ := h
  cases rx
  exact PyProof.Rows.tail_any (dict_typeIs I g) PySem.F.slot_dict_getitem.lookup (d_getItem hu I g ry fun w' s' I' rw' => ⟨z, H, I', rw', q⟩) hs
theorem ix_kd {d : Addr} {es : Array DictEntry} {n : Nat} (D : KDict X.K X.w d es n) : IxR X (fun x y H Q => ∃ (z : Str) (u0 : Value) (v0 : V), x = .ref d ∧ y = .str z ∧ PySem.W.nsIn X.K d z = some (some u0) ∧ RelV v0 u0 ∧ Q v0 H) := by
  intro value slice pins s σ H x y v u Q I rx ry h hs
  obtain ⟨z, u0, v0, rfl, rfl, e, r, q⟩ := h
  cases id rx
  exact PyProof.Rows.tail_any (kd_type D I) PySem.F.slot_dict_getitem.lookup (op_item_kd D pins s σ H _ _ _ u Q I rx ry ⟨z, u0, v0, rfl, rfl, e, r, q⟩) hs
theorem ix_item (hu : X.A.units + 1 < cLine) (hK : X.K = G.K) (hw : X.w = G.w) : IxR X (rD G itemD) := by
  intro value slice pins s σ H v u vv uu Q I rv ru h hs
  obtain ⟨ρ, st, x, y, d, r, hx, hy, e, k⟩ := h
  have fin : ∀ {w : V}, RelP G ρ H d w → Q w H := fun q => k ρ H _ Step.refl r q
  have dict : ∀ (key : Key), y = keyD key → (dctOf st x).bind (fun kvs => getD' key kvs) = some d → wpAny (model X.prog X.w) X.A (subscriptTail value slice vv uu) (EP X pins σ Q) X.xe s := fun key ey e2 => by
    obtain ⟨kvs, q1, q2⟩ := Option.bind_eq_some_iff.mp e2
    obtain ⟨a, kvs', rfl, h1, h2⟩ := r.dct hx q1
    have z := h2.val key
    rw [q2] at z
    obtain ⟨w, z1, z2⟩ := z
    have hk : u = kV key := by
      subst ey
      cases key <;> exact hy
    subst hk
    exact ix_dict hu value slice pins s σ H _ _ vv uu Q I rv ru ⟨a, w, rfl, .inl ⟨kvs', key, h1, rfl, z1.symm⟩, fin z2⟩ hs
  cases y with
  | int n =>
    cases hy
    have rest : (match seqOf st x with
      | some xs => atI xs n
      | none => (dctOf st x).bind fun kvs => getD' (.inl n) kvs) = some d → wpAny (model X.prog X.w) X.A (subscriptTail value slice vv uu) (EP X pins σ Q) X.xe s := fun e2 => by
      split at e2
      · rename_i xs q1
        obtain ⟨a, vs, rfl, h1, h2⟩ := r.seq hx q1
        obtain ⟨w, z1, z2⟩ := h2.atI e2
        rw [← hK] at h1
        rcases h1 with h1 | h1
        · exact ix_list value slice pins s σ H _ _ vv uu Q I rv ru ⟨a, vs, n, w, rfl, rfl, h1, z1, fin z2⟩ hs
        · exact ix_tup value slice pins s σ H _ _ vv uu Q I rv ru ⟨a, vs, n, w, rfl, rfl, h1, z1, fin z2⟩ hs
      · exact dict (.inl n) rfl e2
    cases x with
    | str z =>
      cases hx
      have e2 : (if z.length ≤ 16777216 then (atI z.cps.toList n).map fun c => D.str ⟨#[c]⟩ else none) = some d := e
      split at e2
      · rename_i hz
        obtain ⟨c, q1, rfl⟩ := Option.map_eq_some_iff.mp e2
        exact ix_str value slice pins s σ H _ _ vv uu Q I rv ru ⟨z, n, c, rfl, rfl, line_le hz, q1, fin rfl⟩ hs
      · cases e2
    | _ => exact rest e
  | str z =>
    cases hy
    cases x with
    | wd fs =>
      obtain ⟨a, fs', rfl, ⟨⟨es, n, kd⟩, hg⟩, h2⟩ := hx
      have e2 : getD' z fs = some d := e
      obtain ⟨w, z1, z2⟩ := h2.look e2
      obtain ⟨rr, g1, g2⟩ := hg z
      rw [z1] at g2
      obtain ⟨u0, g3, g4⟩ := g2
      subst g3
      have kd' : KDict X.K X.w a es n := by rw [hK, hw]; exact kd
      exact ix_kd kd' value slice pins s σ H _ _ vv uu Q I rv ru ⟨z, u0, w, rfl, rfl, by rw [hK]; exact g1, g4, fin z2⟩ hs
    | _ => exact dict (.inr z) rfl e
  | _ => cases e
/-- a slice -/
def rSl (G : Cfg) : V → Option Int → Option Int → Hp → VK → Prop := fun v lo hi H Q => ∃ ρ st x d, Rel G ρ H st ∧ RelP G ρ H x v ∧ slcD st x lo hi = some d ∧ ∀ ρ' H' w, Step ρ ρ' H H' → Rel G ρ' H' st → RelP G ρ' H' d w → Q w H'
theorem RelPs.cut {ρ : Lo} {H : Hp} {ds : List D} {vs : List V} (lo hi : Option Int) (h : RelPs G ρ H ds vs) : RelPs G ρ H (cutD ds lo hi) (cutV vs lo hi) := by
  unfold cutD cutV
  rw [← h.length]
  exact (h.drop _).take _
theorem sl_slc (hK : X.K = G.K) : SlR X (rSl G) := by
  intro pins s σ H v vv vl vu lo hi sl Q I rv hs pl pu h
  obtain ⟨ρ, st, x, d, r, hx, e, k⟩ := h
  have rest : (lstOf st x).map (fun xs => D.lst (cutD xs lo hi)) = some d → ∃ T id, typeLookup (.type T) "__getitem__" = pure (some (.builtin id)) ∧ s.TypeIs vv T ∧ wpAny (model X.prog X.w) X.A (getItem vv (.ref sl)) (EP X pins σ Q) X.xe s := fun e2 => by
    obtain ⟨xs, q1, rfl⟩ := Option.map_eq_some_iff.mp e2
    obtain ⟨a, vs, rfl, h1, h2⟩ := r.lst hx q1
    rw [← hK] at h1
    exact sl_list pins s σ H _ vv vl vu lo hi sl Q I rv hs pl pu ⟨a, vs, rfl, h1, fun p hp => k ρ _ _ (step_new hp) (r.new hp) ⟨p, _, rfl, r.notin hp, upd_same, (h2.cut lo hi).step (step_new hp)⟩⟩
  cases x with
  | scr ns =>
    cases e
    obtain ⟨a, rfl, h1⟩ := hx
    have h2 := h1.sq
    rw [← hK] at h2
    have em : cutV (ns.map V.int) lo hi = (cutD ns lo hi).map V.int := by
      unfold cutV cutD
      rw [List.length_map, List.map_take, List.map_drop]
    refine sl_list pins s σ H _ vv vl vu lo hi sl Q I rv hs pl pu ⟨a, _, rfl, h2, fun p hp => k ρ _ _ (step_new hp) (r.new hp) ⟨p, rfl, ?_⟩⟩
    rw [em]
    exact AtL.of upd_same (r.notin hp)
  | str z =>
    cases hx
    have e2 : (if z.length ≤ 16777216 then some (D.str (cutS z lo hi)) else none) = some d := e
    split at e2
    · rename_i hz
      cases e2
      exact sl_str pins s σ H _ vv vl vu lo hi sl Q I rv hs pl pu ⟨z, rfl, line_le hz, k ρ H _ Step.refl r rfl⟩
    · cases e2
  | _ => exact rest e
/-! ### built-ins -/
def rC (G : Cfg) (g : Sto → D → Option D) : List V → Hp → VK → Prop := fun vs H Q => ∃ ρ st x v d, vs = [v] ∧ Rel G ρ H st ∧ RelP G ρ H x v ∧ g st x = some d ∧
  ∀ ρ' H' w, Step ρ ρ' H H' → Rel G ρ' H' st → RelP G ρ' H' d w → Q w H'
theorem RelPk.length {ρ : Lo} {H : Hp} : ∀ {d : List (Key × D)} {v : List (Key × V)}, RelPk G ρ H d v → d.length = v.length
  | [], _, h => by
    cases h
    rfl
  | (_, _) :: _, _, h => by
    obtain ⟨v, t, rfl, _, h2⟩ := h
    exact congrArg Nat.succ (RelPk.length h2)
theorem bools_ok {ρ : Lo} {H : Hp} : ∀ {ds : List D} {vs : List V} {bs : List Bool}, RelPs G ρ H ds vs → boolsOf ds = some bs → vs = bs.map V.bl
  | [], _, _, h, e => by
    cases h
    cases e
    rfl
  | d :: r, _, _, h, e => by
    obtain ⟨v, t, rfl, h1, h2⟩ := h
    cases d with
    | bl b =>
      obtain ⟨bs, e1, rfl⟩ := Option.map_eq_some_iff.mp (show (boolsOf r).map (b :: ·) = some _ from e)
      cases h1
      rw [bools_ok h2 e1]
      rfl
    | _ => cases e
theorem strs_ok {ρ : Lo} {H : Hp} : ∀ {ds : List D} {vs : List V} {bs : List Str}, RelPs G ρ H ds vs → strsOf ds = some bs → vs = bs.map V.str
  | [], _, _, h, e => by
    cases h
    cases e
    rfl
  | d :: r, _, _, h, e => by
    obtain ⟨v, t, rfl, h1, h2⟩ := h
    cases d with
    | str b =>
      obtain ⟨bs, e1, rfl⟩ := Option.map_eq_some_iff.mp (show (strsOf r).map (b :: ·) = some _ from e)
      cases h1
      rw [strs_ok h2 e1]
      rfl
    | _ => cases e
theorem relPs_strs {ρ : Lo} {H : Hp} : ∀ ys : List Str, RelPs G ρ H (ys.map D.str) (ys.map V.str)
  | [] => rfl
  | y :: r => ⟨.str y, r.map V.str, rfl, rfl, relPs_strs r⟩
def blV : Bl → Value
  | .len => .builtin "len"
  | .str => .type "str"
  | .int => .type "int"
  | .tuple => .type "tuple"
  | .all => .builtin "all"
  | .any => .builtin "any"
def blName : Bl → Str
  | .len => "len"
  | .str => "str"
  | .int => "int"
  | .tuple => "tuple"
  | .all => "all"
  | .any => "any"
theorem cr_len (hK : X.K = G.K) : CallR X (.builtin "len") (rC G (bltD .len)) := by
  intro pins s σ H vs us Q I rs h
  obtain ⟨ρ, st, x, v, d, rfl, r, hx, e, k⟩ := h
  have fin : ∀ {n : Nat}, d = .int n → Q (.int n) H := fun q => k ρ H _ Step.refl r (by rw [q]; rfl)
  have rest : (match seqOf st x with
      | some ys => some (D.int ys.length)
      | none => (dctOf st x).map fun kvs => .int kvs.length) = some d → wpAny (model X.prog X.w) X.A (call (.builtin "len") us) (EP X pins σ Q) X.xe s := fun e2 => by
    split at e2
    · rename_i ys q1
      cases e2
      obtain ⟨a, vs, rfl, h1, h2⟩ := r.seq hx q1
      rw [← hK] at h1
      have hl := h2.length
      rcases h1 with h1 | h1
      · exact call_len pins s σ H _ us Q I rs ⟨_, ys.length, rfl, .inl ⟨vs, h1, hl⟩, fin rfl⟩
      · exact call_len pins s σ H _ us Q I rs ⟨_, ys.length, rfl, .inr ⟨vs, h1, hl⟩, fin rfl⟩
    · obtain ⟨kvs, q1, rfl⟩ := Option.map_eq_some_iff.mp e2
      obtain ⟨a, kvs', rfl, h1, h2⟩ := r.dct hx q1
      obtain ⟨uu, rfl, ru⟩ := vals1 rs
      cases ru
      exact d_len I h1 fun t s' I' => ⟨.int kvs.length, H, I', ⟨t, by rw [h2.length]⟩, fin rfl⟩
  cases x with
  | str z =>
    cases hx
    have e2 : (if z.length ≤ 16777216 then some (D.int z.length) else none) = some d := e
    split at e2
    · rename_i hz
      cases e2
      exact call_len pins s σ H _ us Q I rs ⟨_, z.length, rfl, ⟨line_le hz, rfl⟩, fin rfl⟩
    · cases e2
  | _ => exact rest e
theorem cr_str : CallR X (.type "str") (rC G (bltD .str)) := by
  intro pins s σ H vs us Q I rs h
  obtain ⟨ρ, st, x, v, d, rfl, r, hx, e, k⟩ := h
  cases x with
  | int i =>
    cases hx
    have e2 : (if i.natAbs.log2 < 1920 then some (D.str (toString i)) else none) = some d := e
    split at e2
    · rename_i hz
      cases e2
      exact call_str_int pins s σ H _ us Q I rs ⟨i, rfl, hz, k ρ H _ Step.refl r rfl⟩
    · cases e2
  | str z =>
    cases hx
    cases e
    exact SkE.call_str_str pins s σ H _ us Q I rs ⟨z, rfl, k ρ H _ Step.refl r rfl⟩
  | _ => cases e
theorem cr_int : CallR X (.type "int") (rC G (bltD .int)) := by
  intro pins s σ H vs us Q I rs h
  obtain ⟨ρ, st, x, v, d, rfl, r, hx, e, k⟩ := h
  cases x with
  | int i =>
    cases hx
    cases e
    exact call_int1 pins s σ H _ us Q I rs (.inl ⟨i, rfl, k ρ H _ Step.refl r rfl⟩)
  | bl b =>
    cases hx
    cases e
    exact call_int1 pins s σ H _ us Q I rs (.inr ⟨b, rfl, k ρ H _ Step.refl r rfl⟩)
  | str z =>
    cases hx
    have e2 : (if z.length ≤ 640 then (PySem.intText? z).map D.int else none) = some d := e
    split at e2
    · rename_i hz
      obtain ⟨n, q1, rfl⟩ := Option.map_eq_some_iff.mp e2
      exact call_int_str pins s σ H _ us Q I rs ⟨z, n, rfl, q1, hz, k ρ H _ Step.refl r rfl⟩
    · cases e2
  | _ => cases e
theorem cr_allD (hc : X.calm = true) (hK : X.K = G.K) : CallR X (.builtin "all") (rC G (bltD .all)) := by
  intro pins s σ H vs us Q I rs h
  obtain ⟨ρ, st, x, v, d, rfl, r, hx, e, k⟩ := h
  obtain ⟨bs, e1, rfl⟩ := Option.map_eq_some_iff.mp (show ((lstOf st x).bind boolsOf).map (fun bs => D.bl (bs.all id)) = some d from e)
  obtain ⟨xs, q1, q2⟩ := Option.bind_eq_some_iff.mp e1
  obtain ⟨a, vs, rfl, h1, h2⟩ := r.lst hx q1
  have hb := bools_ok h2 q2
  subst hb
  rw [← hK] at h1
  exact cr_all hc pins s σ H _ us Q I rs ⟨a, bs, rfl, h1, k ρ H _ Step.refl r rfl⟩
theorem cr_anyD (hc : X.calm = true) (hK : X.K = G.K) : CallR X (.builtin "any") (rC G (bltD .any)) := by
  intro pins s σ H vs us Q I rs h
  obtain ⟨ρ, st, x, v, d, rfl, r, hx, e, k⟩ := h
  obtain ⟨bs, e1, rfl⟩ := Option.map_eq_some_iff.mp (show ((lstOf st x).bind boolsOf).map (fun bs => D.bl (bs.any id)) = some d from e)
  obtain ⟨xs, q1, q2⟩ := Option.bind_eq_some_iff.mp e1
  obtain ⟨a, vs, rfl, h1, h2⟩ := r.lst hx q1
  have hb := bools_ok h2 q2
  subst hb
  rw [← hK] at h1
  exact cr_any hc pins s σ H _ us Q I rs ⟨a, bs, rfl, h1, k ρ H _ Step.refl r rfl⟩
/-- what lies at a new place -/
def Cont (G : Cfg) (ρ : Lo) (H : Hp) : D → HO → Prop
  | .lst xs, ho => ∃ vs, ho = .lst vs ∧ RelPs G ρ H xs vs
  | .dct kvs, ho => ∃ kvs', ho = .dK kvs' ∧ RelPk G ρ H kvs kvs'
  | .scr ns, ho => ho = .lst (ns.map V.int)
  | _, _ => False
theorem Cont.step {ρ ρ' : Lo} {H H' : Hp} {d : D} {ho : HO} (h : Cont G ρ H d ho) (s : Step ρ ρ' H H') : Cont G ρ' H' d ho := by
  cases d with
  | lst xs =>
    obtain ⟨vs, e, h⟩ := h
    exact ⟨vs, e, h.step s⟩
  | dct xs =>
    obtain ⟨vs, e, h⟩ := h
    exact ⟨vs, e, h.step s⟩
  | _ => exact h
theorem Cont.val {ρ : Lo} {H : Hp} {st : Sto} {d : D} {ho : HO} {p : Addr} (h : Cont G ρ H d ho) (r : Rel G ρ H st) (hp : H p = none) : RelP G ρ (upd H p ho) d (.ref p) := by
  have h2 := h.step (step_new (o := ho) hp)
  cases d with
  | lst xs =>
    obtain ⟨vs, rfl, h⟩ := h2
    exact ⟨p, vs, rfl, r.notin hp, upd_same, h⟩
  | dct xs =>
    obtain ⟨vs, rfl, h⟩ := h2
    exact ⟨p, vs, rfl, ⟨r.notin hp, .inl upd_same⟩, h⟩
  | scr ns =>
    have h : ho = .lst (ns.map V.int) := h
    subst h
    exact ⟨p, rfl, AtL.of upd_same (r.notin hp)⟩
  | _ => exact h.elim
/-- a new list or dict of one argument -/
def rCF (G : Cfg) (g : Sto → D → Option D) : List V → Hp → VK → Prop := fun vs H Q => ∃ ρ st x v d, vs = [v] ∧ Rel G ρ H st ∧ RelP G ρ H x v ∧ g st x = some d ∧ ∀ p ho, H p = none → Cont G ρ H d ho → Q (.ref p) (upd H p ho)
theorem keys_ok {ρ : Lo} {H : Hp} : ∀ {kvs : List (Key × D)} {kvs' : List (Key × V)}, RelPk G ρ H kvs kvs' → RelPs G ρ H (kvs.map fun p => keyD p.1) (kvs'.map fun p => kV p.1)
  | [], _, h => by
    cases h
    rfl
  | (k, d) :: r, _, h => by
    obtain ⟨v, t, rfl, h1, h2⟩ := h
    exact ⟨kV k, _, rfl, by cases k <;> rfl, keys_ok h2⟩
theorem cr_list (hc : X.calm = true) (hK : X.K = G.K) : CallR X (.type "list") (rCF G listR) := by
  intro pins s σ H vs us Q I rs h
  obtain ⟨ρ, st, x, v, d, rfl, r, hx, e, k⟩ := h
  have rest : (listD st x).map D.lst = some d → wpAny (model X.prog X.w) X.A (call (.type "list") us) (EP X pins σ Q) X.xe s := fun e => by
    obtain ⟨ys, e2, rfl⟩ := Option.map_eq_some_iff.mp e
    unfold listD at e2
    split at e2
    · rename_i ys q1
      cases e2
      obtain ⟨a, vs, rfl, h1, h2⟩ := r.seq hx q1
      rw [← hK] at h1
      exact call_list_of pins s σ H _ us Q I rs ⟨a, vs, rfl, h1, fun p hp => k p _ hp ⟨vs, rfl, h2⟩⟩
    · obtain ⟨kvs, q1, rfl⟩ := Option.map_eq_some_iff.mp e2
      obtain ⟨a, kvs', rfl, h1, h2⟩ := r.dct hx q1
      exact call_listD hc pins s σ H _ us Q I rs ⟨a, kvs', rfl, h1, fun p hp => k p _ hp ⟨_, rfl, keys_ok h2⟩⟩
  cases x with
  | scr ns =>
    cases e
    obtain ⟨a, rfl, h1⟩ := hx
    have h2 := h1.sq
    rw [← hK] at h2
    exact call_list_of pins s σ H _ us Q I rs ⟨a, _, rfl, .inl h2, fun p hp => k p _ hp rfl⟩
  | _ => exact rest e
theorem cr_dict : CallR X (.type "dict") (rCF G fun st x => (dctOf st x).map D.dct) := by
  intro pins s σ H vs us Q I rs h
  obtain ⟨ρ, st, x, v, d, rfl, r, hx, e, k⟩ := h
  obtain ⟨kvs, q1, rfl⟩ := Option.map_eq_some_iff.mp e
  obtain ⟨a, kvs', rfl, h1, h2⟩ := r.dct hx q1
  exact call_dictD pins s σ H _ us Q I rs ⟨a, kvs', rfl, h1, fun p hp => k p _ hp ⟨_, rfl, h2⟩⟩
theorem insI_perm (i : Int) : ∀ l, (insI i l).Perm (i :: l)
  | [] => List.Perm.refl _
  | j :: r => by
    unfold insI
    split
    · exact List.Perm.refl _
    · exact ((insI_perm i r).cons j).trans (List.Perm.swap i j r)
theorem srtI_perm : ∀ l, (srtI l).Perm l
  | [] => List.Perm.refl _
  | i :: r => (insI_perm i _).trans ((srtI_perm r).cons i)
theorem insI_sort (i : Int) : ∀ l, l.Pairwise (· ≤ ·) → (insI i l).Pairwise (· ≤ ·)
  | [], _ => by simp [insI]
  | j :: r, h => by
    obtain ⟨h1, h2⟩ := List.pairwise_cons.mp h
    unfold insI
    split
    · rename_i hij
      refine List.pairwise_cons.mpr ⟨fun y hy => ?_, h⟩
      rcases List.mem_cons.mp hy with e | e
      · rw [e]
        exact hij
      · exact Int.le_trans hij (h1 y e)
    · rename_i hij
      refine List.pairwise_cons.mpr ⟨fun y hy => ?_, insI_sort i r h2⟩
      rcases List.mem_cons.mp ((insI_perm i r).mem_iff.mp hy) with e | e
      · rw [e]
        omega
      · exact h1 y e
theorem srtI_sort : ∀ l, (srtI l).Pairwise (· ≤ ·)
  | [] => List.Pairwise.nil
  | i :: r => insI_sort i _ (srtI_sort r)
def leS (a b : Str) : Prop := ltCps b.cps.toList a.cps.toList = false
theorem leS_total {a b : Str} (h : ltCps a.cps.toList b.cps.toList = true) : leS a b := by
  unfold leS
  rw [ltCps_eq] at h ⊢
  have h := of_decide_eq_true h
  exact decide_eq_false (List.lt_asymm h)
theorem leS_refl (a : Str) : leS a a := by
  unfold leS
  rw [ltCps_eq]
  exact decide_eq_false (List.lt_irrefl _)
theorem leS_trans {a b c : Str} (h1 : leS a b) (h2 : leS b c) : leS a c := by
  unfold leS at *
  rw [ltCps_eq] at *
  have h1 := of_decide_eq_false h1
  have h2 := of_decide_eq_false h2
  refine decide_eq_false fun h => ?_
  exact List.not_lt.mpr (List.le_trans (List.not_lt.mp h1) (List.not_lt.mp h2)) h
theorem leS_anti {a b : Str} (h1 : leS a b) (h2 : leS b a) : a = b := by
  unfold leS at *
  rw [ltCps_eq] at *
  have e := List.le_antisymm (List.not_lt.mp (of_decide_eq_false h1)) (List.not_lt.mp (of_decide_eq_false h2))
  obtain ⟨x⟩ := a
  obtain ⟨y⟩ := b
  exact congrArg Str.mk (Array.toList_inj.mp e)
theorem insS_perm (i : Str) : ∀ l, (insS i l).Perm (i :: l)
  | [] => List.Perm.refl _
  | j :: r => by
    unfold insS
    split
    · exact ((insS_perm i r).cons j).trans (List.Perm.swap i j r)
    · exact List.Perm.refl _
theorem srtS_perm : ∀ l, (srtS l).Perm l
  | [] => List.Perm.refl _
  | i :: r => (insS_perm i _).trans ((srtS_perm r).cons i)
theorem insS_sort (i : Str) : ∀ l, l.Pairwise leS → (insS i l).Pairwise leS
  | [], _ => by simp [insS]
  | j :: r, h => by
    obtain ⟨h1, h2⟩ := List.pairwise_cons.mp h
    unfold insS
    split
    · rename_i hij
      refine List.pairwise_cons.mpr ⟨fun y hy => ?_, insS_sort i r h2⟩
      rcases List.mem_cons.mp ((insS_perm i r).mem_iff.mp hy) with e | e
      · rw [e]
        exact leS_total hij
      · exact h1 y e
    · rename_i hij
      have hij : leS i j := by
        unfold leS
        simpa using hij
      refine List.pairwise_cons.mpr ⟨fun y hy => ?_, h⟩
      rcases List.mem_cons.mp hy with e | e
      · rw [e]
        exact hij
      · exact leS_trans hij (h1 y e)
theorem srtS_sort : ∀ l, (srtS l).Pairwise leS
  | [] => List.Pairwise.nil
  | i :: r => insS_sort i _ (srtS_sort r)
theorem risingS_pw : ∀ {l : List Str} {p : Str}, risingS p l = true → (∀ y ∈ l, leS p y) ∧ l.Pairwise leS
  | [], _, _ => ⟨fun _ h => absurd h (by simp), List.Pairwise.nil⟩
  | x :: r, p, h => by
    have h' : (!ltCps x.cps.toList p.cps.toList && risingS x r) = true := h
    rw [Bool.and_eq_true] at h'
    obtain ⟨h1, h2⟩ := h'
    have hp : leS p x := by simpa [leS] using h1
    obtain ⟨i1, i2⟩ := risingS_pw h2
    refine ⟨fun y hy => ?_, List.pairwise_cons.mpr ⟨i1, i2⟩⟩
    rcases List.mem_cons.mp hy with e | e
    · rw [e]
      exact hp
    · exact leS_trans hp (i1 y e)
theorem sortedS_pw {l : List Str} (h : sortedS l = true) : l.Pairwise leS := by
  cases l with
  | nil => exact List.Pairwise.nil
  | cons x r =>
    obtain ⟨h1, h2⟩ := risingS_pw (show risingS x r = true from h)
    exact List.pairwise_cons.mpr ⟨h1, h2⟩
theorem ints_ok {ρ : Lo} {H : Hp} : ∀ {ds : List D} {vs : List V} {bs : List Int}, RelPs G ρ H ds vs → intsOf ds = some bs → vs = bs.map V.int
  | [], _, _, h, e => by
    cases h
    cases e
    rfl
  | d :: r, _, _, h, e => by
    obtain ⟨v, t, rfl, h1, h2⟩ := h
    cases d with
    | int b =>
      obtain ⟨bs, e1, rfl⟩ := Option.map_eq_some_iff.mp (show (intsOf r).map (b :: ·) = some _ from e)
      cases h1
      rw [ints_ok h2 e1]
      rfl
    | _ => cases e
theorem strsOf_len : ∀ {ds : List D} {ys : List Str}, strsOf ds = some ys → ys.length = ds.length
  | [], _, e => by
    cases e
    rfl
  | .str s :: r, _, e => by
    obtain ⟨bs, e1, rfl⟩ := Option.map_eq_some_iff.mp (show (strsOf r).map (s :: ·) = some _ from e)
    exact congrArg Nat.succ (strsOf_len e1)
theorem intsOf_len : ∀ {ds : List D} {ys : List Int}, intsOf ds = some ys → ys.length = ds.length
  | [], _, e => by
    cases e
    rfl
  | .int s :: r, _, e => by
    obtain ⟨bs, e1, rfl⟩ := Option.map_eq_some_iff.mp (show (intsOf r).map (s :: ·) = some _ from e)
    exact congrArg Nat.succ (intsOf_len e1)
theorem cr_srt (hK : X.K = G.K) : CallR X (.builtin "sorted") (rCF G srtD) := by
  intro pins s σ H vs us Q I rs h
  obtain ⟨ρ, st, x, v, d, rfl, r, hx, e, k⟩ := h
  obtain ⟨xs, q1, e2⟩ := Option.bind_eq_some_iff.mp (show (lstOf st x).bind _ = some d from e)
  obtain ⟨a, vs, rfl, h1, h2⟩ := r.lst hx q1
  rw [← hK] at h1
  split at e2
  · rename_i h64
    split at e2
    · rename_i ys q2
      cases e2
      have hb := strs_ok h2 q2
      subst hb
      refine cr_sortedS pins s σ H _ us Q I rs ⟨a, ys, rfl, h1, by rw [strsOf_len q2]; exact h64, fun zs p hp hs hn => ?_⟩
      have e3 : zs = srtS ys := List.Perm.eq_of_pairwise (le := leS) (fun _ _ _ _ => leS_anti) (sortedS_pw hs) (srtS_sort ys) (hp.trans (srtS_perm ys).symm)
      subst e3
      exact k p _ hn ⟨_, rfl, relPs_strs _⟩
    · obtain ⟨ns, q3, rfl⟩ := Option.map_eq_some_iff.mp e2
      have hb := ints_ok h2 q3
      subst hb
      refine cr_sorted pins s σ H _ us Q I rs ⟨a, ns, rfl, h1, by rw [intsOf_len q3]; exact h64, fun zs p hp hs hn => ?_⟩
      have e3 : zs = srtI ns := List.Perm.eq_of_pairwise (le := (· ≤ ·)) (fun _ _ _ _ => Int.le_antisymm) hs (srtI_sort ns) (hp.trans (srtI_perm ns).symm)
      subst e3
      exact k p _ hn ⟨_, rfl, relPs_ints _⟩
  · cases e2
theorem cr_tuple (hK : X.K = G.K) : CallR X (.type "tuple") (rC G (bltD .tuple)) := by
  intro pins s σ H vs us Q I rs h
  obtain ⟨ρ, st, x, v, d, rfl, r, hx, e, k⟩ := h
  obtain ⟨ys, q1, rfl⟩ := Option.map_eq_some_iff.mp (show (seqOf st x).map D.tup = some d from e)
  cases x with
  | tup zs =>
    obtain ⟨a, vs, rfl, h1, h2⟩ := hx
    cases q1
    have h1' := h1.sq
    rw [← hK] at h1'
    exact call_tuple_of pins s σ H _ us Q I rs ⟨a, vs, rfl, .inr ⟨h1', k ρ H _ Step.refl r ⟨a, vs, rfl, h1, h2⟩⟩⟩
  | _ =>
    obtain ⟨a, vs, rfl, h1, h2⟩ := r.lst hx (show lstOf st _ = some ys from q1)
    rw [← hK] at h1
    exact call_tuple_of pins s σ H _ us Q I rs ⟨a, vs, rfl, .inl ⟨h1, fun p hp => k ρ _ _ (step_new hp) (r.new hp) ⟨p, _, rfl, AtT.of upd_same (r.notin hp), h2.step (step_new hp)⟩⟩⟩
theorem cr_blt (hc : X.calm = true) (hK : X.K = G.K) (b : Bl) : CallR X (blV b) (rC G (bltD b)) := by
  cases b with
  | len => exact cr_len hK
  | str => exact cr_str
  | int => exact cr_int
  | tuple => exact cr_tuple hK
  | all => exact cr_allD hc hK
  | any => exact cr_anyD hc hK
end
end Mp
end
section
set_option Elab.async false
set_option linter.all false
set_option maxRecDepth 100000
set_option maxHeartbeats 1000000
/-! Mp: when a skeleton fits a text. -/
namespace Mp
open PySem PySem.Spec PyProof.Rows L2

/-- what the text's names are -/
structure Tab where
  fns : List Str
  blts : List Str
  miss : Str → List D → Bool
  meths : List (Str × Str)
  mks : List Str
  exs : List Str
  hcls : List Str
structure Sc where
  N : List Str
  sc : Scope
  fn : Str → Bool
  T : Tab
  calm : Bool
  hnd : Option Nat
def Sc.blk (S : Sc) (scope : Scope) : Sc := { S with sc := relS scope S.sc, fn := fun x => scope.names.lookup x == some .cell }
def visB (sc : Scope) (x : Str) : Bool := match sc.names.lookup x with
  | some .local => true
  | some .cell => true
  | some .free => true
  | _ => false
def gloB (sc : Scope) (x : Str) : Bool := match sc.names.lookup x with
  | some .globalImplicit => true
  | _ => false
def locB (S : Sc) (x : Str) : Bool := match S.sc.names.lookup x with
  | some .local => true
  | some .cell => S.fn x
  | _ => false
def isDunder (x : Str) : Bool := decide (x = "__debug__") || decide (x = "__classdict__") || decide (x = "__name__")
def slotB (S : Sc) (i : Nat) (x : Str) : Bool := decide (S.N[i]? = some x) && !isDunder x
def constB : D → Const → Bool
  | .non, .none => true
  | .bl a, .bool b => decide (a = b)
  | .int a, .int b => decide (a = b)
  | .str a, .str b => decide (a = b)
  | _, _ => false
def noKw : List Keyword → Bool
  | [] => true
  | _ => false
def oneLine (p q : Pos) : Bool := p.endLine == q.line
def bm0Name : Bm0 → Str
  | .lpop => "pop"
  | .lclear => "clear"
  | .lower => "lower"
  | .upper => "upper"
def bm1Name : Bm1 → Str
  | .append => "append"
  | .lpop => "pop"
  | .dpop => "pop"
  | .split => "split"
  | .join => "join"
  | .find => "find"
  | .startswith => "startswith"
  | .endswith => "endswith"
mutual
/-- the slots of a target -/
def tgSl : Tg → List Nat
  | .nm i => [i]
  | .tp ts => tgSls ts
  | .hd i j => [i, j]
  | .tl j i => [j, i]
def tgSls : List Tg → List Nat
  | [] => []
  | t :: ts => tgSl t ++ tgSls ts
end
mutual
def okTg (S : Sc) : Tg → Expr → Bool
  | .nm i, .Name x _ => slotB S i x && locB S x
  | .tp ts, .Tuple es _ _ => okTgs S ts es
  | .hd i j, .Tuple [.Name x _, .Starred (.Name y _) _] _ _ => slotB S i x && locB S x && slotB S j y && locB S y
  | _, _ => false
def okTgs (S : Sc) : List Tg → List Expr → Bool
  | [], [] => true
  | t :: ts, e :: es => okTg S t e && okTgs S ts es
  | _, _ => false
end
def baseB : PySem.Expr → Bool
  | .Call (.Name x _) [] [] _ => !decide (x = "super")
  | _ => true
def okM0 : Bm0 → Bool
  | .lower => true
  | .upper => true
  | _ => false
def okM1 : Bm1 → Bool
  | .lpop => false
  | .dpop => false
  | _ => true
/-- what is no star, no slice, no set -/
def plainE : Expr → Bool
  | .Starred .. => false
  | .Slice .. => false
  | .Set .. => false
  | _ => true
def ownN (S : Sc) (own : List Nat) : List (Str × Nat) := own.filterMap fun i => (S.N[i]?).map fun x => (x, i)
/-- the classes that isinstance asks for -/
def okTy (S : Sc) : List Ty → List Expr → Bool
  | [], [] => true
  | t :: ts, .Name x _ :: es => decide (x = t.nm) && gloB S.sc x && S.T.blts.contains x && !decide (t = .none) && okTy S ts es
  | _, _ => false
def okBlt (S : Sc) (x : Str) : Bool := gloB S.sc x && S.T.blts.contains x
mutual
def okE (S : Sc) : PX → Expr → Bool
  | .hole, e => plainE e
  | .var i, .Name x _ => slotB S i x && visB S.sc x
  | .cst d, .Constant c _ _ => constB d c
  | .glob x, .Name y _ => decide (x = y) && gloB S.sc x && !isDunder x
  | .bop o a b, .BinOp x op y _ => decide (op = bopOp o) && okE S a x && okE S b y
  | .cmp o a b, .Compare x [op] [y] _ => decide (op = cmpOp o) && okE S a x && okE S b y
  | .chn o p a b c, .Compare x [op, op2] [y, z] _ => decide (op = cmpOp o) && decide (op2 = cmpOp p) && okE S a x && okE S b y && okE S c z
  | .and_ a b, .BoolOp .And (x :: y :: zs) p => okE S a x && okE S b (match zs with
    | [] => y
    | _ => .BoolOp .And (y :: zs) p)
  | .or_ a b, .BoolOp .Or (x :: y :: zs) p => okE S a x && okE S b (match zs with
    | [] => y
    | _ => .BoolOp .Or (y :: zs) p)
  | .not_ a, .UnaryOp .Not x _ => okE S a x
  | .neg a, .UnaryOp .USub x _ => okE S a x
  | .ife c a b, .IfExp z x y _ => okE S c z && okE S a x && okE S b y
  | .tup es, .Tuple xs _ _ => okEs S es xs && decide (es.length ≤ 1000)
  | .val f, e => okF S f e
  | .loc f, e => okF S f e
  | .item a i, .Subscript x y _ => okE S a x && okE S i y
  | .slc a lo hi, .Subscript x (.Slice l h none _) _ => okE S a x && (match l with
      | none => isHole lo
      | some e => !isHole lo && okE S lo e) && (match h with
      | none => isHole hi
      | some e => !isHole hi && okE S hi e)
  | .fld a f, .Attribute x g _ => decide (f = g) && okE S a x && baseB x
  | .blt b e, .Call (.Name x _) [y] kws _ => decide (x = blName b) && okBlt S x && okE S e y && noKw kws && S.calm
  | .isi e ts, .Call (.Name x _) [y, z] kws _ => decide (x = "isinstance") && okBlt S x && okE S e y && noKw kws && (match z with
      | .Name c p => okTy S ts [.Name c p]
      | .Tuple zs _ _ => okTy S ts zs && decide (ts.length ≤ 10)
      | _ => false)
  | .call f es ds, .Call (.Name x _) xs kws _ => decide (x = f) && gloB S.sc x && !isDunder x && S.T.fns.contains x && okEs S es xs && noKw kws && S.T.miss f ds && S.calm
  | .meth C o m es ds, .Call (.Attribute x m' p) xs kws q => decide (m' = m) && okE S o x && okEs S es xs && noKw kws && oneLine p q && baseB x && S.T.meths.contains (C, m) && S.T.miss (C ++ "." ++ m) ds && decide (es.length < 20) && S.calm
  | .make C es ds, .Call (.Name x _) xs kws _ => decide (x = C) && gloB S.sc x && !isDunder x && S.T.mks.contains x && okEs S es xs && noKw kws && S.T.miss (C ++ ".__init__") ds && S.calm
  | .callv i es, .Call (.Name x _) xs kws _ => slotB S i x && visB S.sc x && okEs S es xs && noKw kws && S.calm
  | .bm0 m o, .Call (.Attribute x g p) [] kws q => decide (g = bm0Name m) && okE S o x && noKw kws && oneLine p q && baseB x && okM0 m
  | .bm1 m o e, .Call (.Attribute x g p) [y] kws q => decide (g = bm1Name m) && okE S o x && okE S e y && noKw kws && oneLine p q && baseB x && okM1 m
  | .fmt es, .JoinedStr (v :: vs) _ => okFm S es (v :: vs)
  | .errf i f, .Attribute (.Name x _) g _ => decide (f = g) && decide (S.hnd = some i) && slotB S i x && visB S.sc x
  | _, _ => false
def okEs (S : Sc) : List PX → List Expr → Bool
  | [], [] => true
  | p :: ps, e :: es => okE S p e && okEs S ps es
  | _, _ => false
/-- the parts of a text with fields -/
def okFm (S : Sc) : List PX → List Expr → Bool
  | [], [] => true
  | p :: ps, e :: es => (match e with
      | .FormattedValue x c none _ => decide (c = -1) && okE S p x
      | .Constant (.str s) j q => okE S p (.Constant (.str s) j q)
      | _ => false) && okFm S ps es
  | _, _ => false
def okF (S : Sc) : PF → Expr → Bool
  | .lst es, .List xs _ => okEs S es xs && decide (es.length ≤ 1000)
  | .dsp ks es, .Dict [] [] _ => (match ks, es with
      | [], [] => true
      | _, _ => false)
  | .list e, .Call (.Name x _) [y] kws _ => decide (x = "list") && okBlt S x && okE S e y && noKw kws && S.calm
  | .srt e, .Call (.Name x _) [y] kws _ => decide (x = "sorted") && okBlt S x && okE S e y && noKw kws
  | .dict e, .Call (.Name x _) [y] kws _ => decide (x = "dict") && okBlt S x && okE S e y && noKw kws
  | .lc own src tg cs e, .ListComp elt [⟨t, iter, ifs, z⟩] scope _ => decide (z = 0) && S.calm && S.hnd.isNone && decide (cs.length ≤ 1) && plainE iter && okI S src t iter && (tgSl tg).all (fun i => own.contains i) && blkC S.N S.sc scope (ownN S own) && decide ((ownN S own).map (·.2) = own) && okTg (S.blk scope) tg t && okEs (S.blk scope) cs ifs && okE (S.blk scope) e elt
  | .dc own src tg cs k e, .DictComp kx vx [⟨t, iter, ifs, z⟩] scope _ => decide (z = 0) && S.calm && S.hnd.isNone && decide (cs.length ≤ 1) && plainE iter && okI S src t iter && (tgSl tg).all (fun i => own.contains i) && blkC S.N S.sc scope (ownN S own) && decide ((ownN S own).map (·.2) = own) && okTg (S.blk scope) tg t && okEs (S.blk scope) cs ifs && okE (S.blk scope) k kx && okE (S.blk scope) e vx
  | _, _ => false
def okI (S : Sc) : PSrc → Expr → Expr → Bool
  | .val e, _, iter => okE S e iter
  | .items e, .Tuple _ _ _, .Call (.Attribute x m p) [] kws q => decide (m = "items") && okE S e x && noKw kws && oneLine p q && baseB x
  | .enum e, .Tuple _ _ _, .Call (.Name x _) [y] kws _ => decide (x = "enumerate") && okBlt S x && okE S e y && noKw kws
  | .zip a b, .Tuple _ _ _, .Call (.Name x _) [y, z] kws _ => decide (x = "zip") && okBlt S x && okE S a y && okE S b z && noKw kws
  | .rng [a], _, .Call (.Name x _) [y] kws _ => decide (x = "range") && okBlt S x && okE S a y && noKw kws
  | .rng [a, b], _, .Call (.Name x _) [y, z] kws _ => decide (x = "range") && okBlt S x && okE S a y && okE S b z && noKw kws
  | _, _, _ => false
end
def isComp : Expr → Bool
  | .ListComp .. => true
  | .SetComp .. => true
  | .DictComp .. => true
  | _ => false
def isTup : Expr → Bool
  | .Tuple .. => true
  | _ => false
/-- a comprehension that is stored in a local name of its line -/
def swB (S : Sc) (scope : Scope) (x : Str) (px py : Pos) : Bool := (match S.sc.names.lookup x with
  | some .local => true
  | _ => false) && px.line == py.line && !(scope.names.any fun p => p.1 == x && (p.2 == .local || p.2 == .cell))
def noHnd (S : Sc) : Bool := S.hnd.isNone
/-- the classes that a clause names -/
def okHc (S : Sc) : List Str → List Expr → Bool
  | [], [] => true
  | c :: cs, .Name x _ :: es => decide (x = c) && gloB S.sc x && !isDunder x && S.T.hcls.contains x && okHc S cs es
  | _, _ => false
def okHt (S : Sc) (cs : List Str) : Expr → Bool
  | .Name x p => okHc S cs [.Name x p]
  | .Tuple es _ _ => okHc S cs es && decide (es.length = 2)
  | _ => false
def Sc.suite (S : Sc) (i : Option Nat) : Sc := { S with calm := false, hnd := i }
def okAsgF (S : Sc) (t : Tg) (e : PX) (y : Expr) : Bool := match t with
  | .nm _ => (match e with
    | .val f => okF S f y
    | .loc f => okF S f y
    | _ => false)
  | _ => false
mutual
def okS (S : Sc) : PSt → Stmt → Bool
  | .hole, _ => true
  | .pass, .Pass _ => true
  | .pass, .Expr (.Constant (.str _) _ _) _ => true
  | .expr e, .Expr x _ => okE S e x && !isComp x
  | .asg t e, .Assign [x] y pos => okTg S t x && S.calm && noHnd S && !(isTup x && isTup y) && (match y with
      | .ListComp elt gens scope q => (match x with
        | .Name n p => if swB S scope n p q = true then okAsgF S t e y else okE S e y
        | _ => false)
      | .DictComp kx vx gens scope q => (match x with
        | .Name n p => if swB S scope n p q = true then okAsgF S t e y else okE S e y
        | _ => false)
      | y => okE S e y && !isComp y)
  | .setf o f e, .Assign [.Attribute x g _] y _ => decide (f = g) && okE S o x && okE S e y
  | .seti o i e, .Assign [.Subscript x z _] y _ => okE S o x && okE S i z && okE S e y && !isComp y && S.calm
  | .ifs c t e, .If x a b _ => okE S c x && okSs S t a && okSs S e b
  | .fors src tg b, .For t iter body [] _ => okI S src t iter && okTg S tg t && okSs S b body && S.calm && noHnd S && plainE iter
  | .whl c b, .While x body [] _ => okE S c x && okSs S b body
  | .ret e, .Return (some x) _ => okE S e x
  | .retn, .Return none _ => true
  | .cont, .Continue _ => true
  | .brk, .Break _ => true
  | .rais C es, .Raise (some (.Call (.Name x _) xs kws _)) none _ => decide (x = C) && gloB S.sc x && !isDunder x && S.T.exs.contains x && okEs S es xs && noKw kws && S.calm
  | .try_ b hs, .Try body hds [] [] _ => okSs S b body && okHs S hs hds && S.calm && noHnd S && !hs.isEmpty
  | _, _ => false
def okSs (S : Sc) : List PSt → List Stmt → Bool
  | [], [] => true
  | p :: ps, s :: ss => okS S p s && okSs S ps ss
  | _, _ => false
def okHs (S : Sc) : List PH → List ExceptHandler → Bool
  | [], [] => true
  | .mk cs i b :: hs, .ExceptHandler (some te) nm (s :: ss) _ :: hds => okHt S cs te && (match i with
      | none => nm.isNone
      | some i => (match nm with
        | some n => slotB S i n && (match S.sc.names.lookup n with
          | some .local => true
          | _ => false)
        | none => false)) && okSs (S.suite i) b (s :: ss) && okHs S hs hds
  | _, _ => false
end
theorem band {a b : Bool} (h : (a && b) = true) : a = true ∧ b = true := Bool.and_eq_true_iff.mp h
def plainAllB : List PySem.Expr → Bool
  | [] => true
  | e :: es => plainE e && plainAllB es
section
variable {S : Sc} {p : PX} {e : Expr}
theorem okE_plain (h : okE S p e = true) : plainE e = true := by
  cases e <;> first | rfl | (cases p <;> first | (cases h; done) | exact h | (rename_i f; cases f <;> cases h))
theorem okF_test {f : PF} (h : okF S f e = true) : ∀ {env : PySem.Env} (whole : Sem Value), isTrue e env whole = (do let v ← whole; standAt e.pos; holding [v] (truthy v)) := by
  cases e <;> first | (intro env whole; rfl) | (cases f <;> cases h)
theorem plain_star (h : plainE e = true) (es : List Expr) (env : PySem.Env) : starEach (e :: es) env = (false, eval e env) :: starEach es env := by
  cases e <;> first | rfl | cases h
theorem plain_ix (h : plainE e = true) : PlainIx e := by
  intro o i
  cases e <;> first | rfl | cases h
theorem plain_marks (h : plainE e = true) (op : CmpOp) : behindInMarks op e = false := by
  cases e <;> first | rfl | cases h
theorem okEs_plain {S : Sc} : ∀ {ps : List PX} {es : List Expr}, okEs S ps es = true → plainAllB es = true
  | [], [], _ => rfl
  | [], _ :: _, h => by cases h
  | _ :: _, [], h => by cases h
  | p :: ps, e :: es, h => by
    obtain ⟨h1, h2⟩ := band h
    show (plainE e && plainAllB es) = true
    rw [okE_plain h1, okEs_plain h2]
    rfl
theorem plain_folded (h : plainE e = true) (env : PySem.Env) (x : Value) : foldedSetIterable e env x = pure x := by
  cases e <;> first | rfl | cases h
end
end Mp
end
section
set_option Elab.async false
set_option linter.all false
set_option maxRecDepth 100000
set_option maxHeartbeats 2000000
/-! Mp: what is asked of the written part. -/
namespace Mp
open PySem PySem.Spec PyProof.Rows L2
/-- own classes, then a built-in one's tail -/
def refsT (tail : List Value) : List Value → Bool
  | [] => ([] : List Value) == tail
  | v :: r => match v with
    | .ref _ => refsT tail r
    | _ => (v :: r) == tail
abbrev AlM : Type := He.AlT × Bool
def valM (fn : List He.DefD) (ts : List He.Tab) (w : World) : AlM := (He.valT fn ts w, true)
structure SaysM (fa : List He.Fa) (fn : List He.DefD) (ts : List He.Tab) (ex : PySem.W.Frag → Bool) (w : World) (K : PySem.W.Frag) : Prop where
  t : He.SaysT fa fn ts w K
  more : ex K = true
def oexB (K : PySem.W.Frag) (C : Addr) (tail : List Value) (newId : String) : Bool := (match K.lookup C with
  | some ⟨.type "type", _, .cls cd, sl⟩ => (match cd.mro, sl.toList with
    | .ref C2 :: bm, [_, _, _, _, some (.builtin n), _] => C2 == C && n == newId && !cd.hasDel && cd.hasDict && refsT tail bm
    | _, _ => false)
  | _ => false) && decide (PySem.W.findIn K (.ref C) "__setattr__" = some (some (.builtin "object.__setattr__"))) && decide (PySem.W.subIn K (.ref C) (.type "BaseException") = some true) && decide (PySem.W.typeIn K (.ref C) = some (.type "type")) && PySem.W.keepIn K (.ref C)
/-- a text's tables -/
structure Tbl where
  fns : List (Str × Fn)
  at_ : List (Str × (Str × Option Str))
  globs : List (Str × D)
  flds : List (Str × Str)
  vals : List Str
  xf : List (Str × Str)
  subs : List ((Str × Str) × Bool)
  exs : List (Str × (Str × List Str))
  miss : List (Str × List (List D))
  fuel : Nat
def Tbl.W (t : Tbl) : Wld := ⟨fun c d => t.subs.lookup (c, d), fun c => t.exs.lookup c, t.fuel⟩
def Tbl.P (t : Tbl) : Prg := ⟨fun f => t.fns.lookup f, fun x => t.globs.lookup x, fun c f => t.flds.contains (c, f), t.vals, fun c f => t.xf.contains (c, f), t.W⟩
def Tbl.missB (t : Tbl) (f : Str) (ds : List D) : Bool := match t.miss.lookup f with
  | some l => l.any fun d => D.deqs d ds
  | none => false
def Tbl.fA (t : Tbl) (K : PySem.W.Frag) (f : Str) : Addr := match t.at_.lookup f with
  | some p => He.fAd K p
  | none => 0
/-- a written value -/
def valB (t : Tbl) (K : PySem.W.Frag) : D → Value → Bool
  | .non, .none => true
  | .bl a, .bool b => a == b
  | .int i, .int j _ => decide (i = j)
  | .str x, .str y _ => decide (x = y)
  | .fn f, .ref a => decide (t.fA K f = a)
  | _, _ => false
/-- a written dict of text keys -/
def wdE (t : Tbl) (K : PySem.W.Frag) : List (Str × D) → List DictEntry → Bool
  | [], [] => true
  | (k, d) :: r, e :: es => (match e.key with
    | .str x _ => decide (x = k)
    | _ => false) && !e.refKey && valB t K d e.val && wdE t K r es
  | _, _ => false
def wdB (t : Tbl) (K : PySem.W.Frag) (fs : List (Str × D)) (a : Addr) : Bool := match K.lookup a with
  | some ⟨_, _, .dict es _, _⟩ => wdE t K fs es.toList
  | _ => false
/-- a module's constant -/
def globB (t : Tbl) (K : PySem.W.Frag) (x : Str) (d : D) : Bool := match PySem.W.nsIn K mainGlobals x with
  | some (some u) => (match d with
    | .wd fs => (match u with
      | .ref a => decide (He.ga K x = a) && wdB t K fs a
      | _ => false)
    | d => valB t K d u)
  | _ => false
def chk (t : Tbl) (T : Tab) (K : PySem.W.Frag) : Bool :=
  (t.globs.all fun p => globB t K p.1 p.2) &&
  (T.blts.all fun x => (He.Fa.free x).ok K) &&
  (t.flds.all fun p => (He.Fa.cls p.1).ok K && (He.Fa.noat p.1 p.2).ok K) &&
  (T.fns.all fun f => (t.fns.lookup f).isSome && ((He.Fa.glo f).ok K && decide (t.fA K f = He.ga K f))) &&
  (T.meths.all fun p => (t.fns.lookup (p.1 ++ "." ++ p.2)).isSome && ((He.Fa.cls p.1).ok K && ((He.Fa.meth p.1 p.2).ok K && decide (t.fA K (p.1 ++ "." ++ p.2) = He.ma K (He.ga K p.1) p.2)))) &&
  (T.mks.all fun C => (t.fns.lookup (C ++ ".__init__")).isSome && ((He.Fa.mkr C).ok K && ((He.Fa.glo C).ok K && decide (t.fA K (C ++ ".__init__") = He.ma K (He.ga K C) "__init__")))) &&
  (T.hcls.all fun d => (He.Fa.glo d).ok K) &&
  (t.subs.all fun p => (He.Fa.exm p.1.1 p.1.2 p.2).ok K) &&
  (t.xf.all fun p => xfB K (He.ga K p.1) && (He.Fa.noat p.1 p.2).ok K)
/-- what is asked of a class over own B over a built-in one -/
def exB (K : PySem.W.Frag) (C B : Str) (fs : List Str) (tail : List Value) (newId : String) : Bool :=
  oexB K (He.ga K C) tail newId && ((("word" : Str) :: fs).all (fun f => decide (PySem.W.findIn K (.ref (He.ga K C)) f = some none)) &&
  (decide (PySem.W.findIn K (.ref (He.ga K C)) "__init__" = some (some (.ref (He.ma K (He.ga K C) "__init__")))) && (decide (PySem.W.typeIn K (.ref (He.ma K (He.ga K C) "__init__")) = some (.type "function")) &&
  ((He.Fa.glo C).ok K && ((He.Fa.glo B).ok K && (PySem.W.readsIn K (He.ga K B) (.type "type") && (decide (PySem.W.specialIn K (.ref (He.ga K B)) "__getattribute__" = some (some (.builtin "type.__getattribute__"))) &&
  ((match PySem.W.findCls K (.ref (He.ga K B)) (.type "type") "__init__" with
    | some (.val (.ref a)) => decide (a = He.ma K (He.ga K B) "__init__")
    | _ => false) && PySem.W.keepIn K (.ref (He.ma K (He.ga K B) "__init__"))))))))))
/-- the objects told, and what is told of them -/
def kA (as : List Addr) (g : Addr → Option Obj) : PySem.W.Frag := He.frG g as
def obsA (as : List Addr) (fn : List He.DefD) (ts : List He.Tab) (ex : PySem.W.Frag → Bool) (g : Addr → Option Obj) : AlM := (He.obsT [] fn ts (kA as g), ex (kA as g))
def hookA (as : List Addr) (fn : List He.DefD) (ts : List He.Tab) (ex : PySem.W.Frag → Bool) : PySem.W.Hook where
  α := AlM
  obs := fun s => obsA as fn ts ex s.heap.get?
  val := fun w => valM fn ts w
  says := fun w h => ∃ K : PySem.W.Frag, K.In h ∧ SaysM [] fn ts ex w K
  of := fun _ _ e => ⟨_, He.frG_in, congrArg (fun z : AlM => z.1) e, congrArg (fun z : AlM => z.2) e⟩
  keeps := fun _ _ _ ⟨K, hK, c⟩ k => ⟨K, PySem.W.Frag.In.keeps hK k, c⟩
theorem obsA_eq {as : List Addr} {fn : List He.DefD} {ts : List He.Tab} {ex : PySem.W.Frag → Bool} (s : PySem.W.SharedT) : obsA as fn ts ex (HandSHeadRun.getT s) = (hookA as fn ts ex).obs s.abs := congrArg (obsA as fn ts ex) (funext (HandSHeadRun.getT_eq s))
/-- two looks at one run -/
theorem look_two {α β γ δ : Type} {o : Option α} {f : α → β} {g : α → γ} {h : α → δ} {b : β} {c : γ} {d : δ} (h1 : o.map (fun s => (f s, g s)) = some (b, c)) (h2 : o.map h = some d) : o.map (fun s => (f s, g s, h s)) = some (b, c, d) := by
  cases o with
  | none => cases h1
  | some s =>
    have e1 : (f s, g s) = (b, c) := Option.some.inj h1
    have e2 : h s = d := Option.some.inj h2
    cases e1
    cases e2
    rfl
/-- the looks at the end of the top -/
def LooksEq (r : PySem.W.OpenRow) (q : Program) (M : Nat) (loose : List Str) (w : World) : Prop := ∀ os : OsState,
  (HandSHeadRun.endF (HandSHeadRun.stepQ (HandSHeadRun.denQ HandSHeadRun.tabQ) r.prog w) M r.prog w os).map (fun s => (HandSHeadRun.looksF r.prog (PySem.W.boot_heap w.params) s.abs, HandSHeadRun.seenQ q loose (PySem.importedModules r.prog.main.body) (fun s => PySem.W.xlAt q [] s && PySem.W.recOk r.toRowW.records s) s.abs)) = some (true, PySem.W.openGood q loose)
/-- what is told at its end -/
def TellsEq (r : PySem.W.OpenRow) (H : PySem.W.Hook) (ob : PySem.W.SharedT → H.α) (M : Nat) (w : World) : Prop := ∀ os : OsState,
  (HandSHeadRun.endF (HandSHeadRun.stepQ (HandSHeadRun.denQ HandSHeadRun.tabQ) r.prog w) M r.prog w os).map ob = some (H.val w)
theorem runEq_of {r : PySem.W.OpenRow} {q : Program} {H : PySem.W.Hook} {ob : PySem.W.SharedT → H.α} {M : Nat} {loose : List Str} {w : World} (h1 : LooksEq r q M loose w) (h2 : TellsEq r H ob M w) : HandSHeadRun.RunEq r q H ob M loose w := fun os => look_two (h1 os) (h2 os)
end Mp
end
section
set_option Elab.async false
set_option linter.all false
set_option maxRecDepth 100000
set_option maxHeartbeats 0
namespace K78
open PySem PySem.Spec PyProof.Rows L2 Mp
def top (i : Nat) : Stmt := PySem.Challenge.pw_spoorfold_k78_rows_that_a_desk_knows_not.main.body.getD i (.Pass ⟨0, 0, 0, 0⟩)
def mth (s : Stmt) (j : Nat) : Stmt := match s with
  | .ClassDef _ _ _ b _ _ _ _ _ _ _ => b.getD j (.Pass ⟨0, 0, 0, 0⟩)
  | _ => .Pass ⟨0, 0, 0, 0⟩
abbrev n_DOES : Str := ⟨#[68, 79, 69, 83]⟩
abbrev n_Desk : Str := ⟨#[68, 101, 115, 107]⟩
abbrev n_Desk_2e___init__ : Str := ⟨#[68, 101, 115, 107, 46, 95, 95, 105, 110, 105, 116, 95, 95]⟩
abbrev n_Desk_2e_say : Str := ⟨#[68, 101, 115, 107, 46, 115, 97, 121]⟩
abbrev n_Hall : Str := ⟨#[72, 97, 108, 108]⟩
abbrev n_Hall_2e___init__ : Str := ⟨#[72, 97, 108, 108, 46, 95, 95, 105, 110, 105, 116, 95, 95]⟩
abbrev n_Hall_2e_coming : Str := ⟨#[72, 97, 108, 108, 46, 99, 111, 109, 105, 110, 103]⟩
abbrev n_Hall_2e_do : Str := ⟨#[72, 97, 108, 108, 46, 100, 111]⟩
abbrev n_Hall_2e_laid : Str := ⟨#[72, 97, 108, 108, 46, 108, 97, 105, 100]⟩
abbrev n_Hall_2e_like : Str := ⟨#[72, 97, 108, 108, 46, 108, 105, 107, 101]⟩
abbrev n_Hall_2e_lines : Str := ⟨#[72, 97, 108, 108, 46, 108, 105, 110, 101, 115]⟩
abbrev n_Hall_2e_past : Str := ⟨#[72, 97, 108, 108, 46, 112, 97, 115, 116]⟩
abbrev n_Hall_2e_put : Str := ⟨#[72, 97, 108, 108, 46, 112, 117, 116]⟩
abbrev n_Hall_2e_stood : Str := ⟨#[72, 97, 108, 108, 46, 115, 116, 111, 111, 100]⟩
abbrev n_Hall_2e_strike : Str := ⟨#[72, 97, 108, 108, 46, 115, 116, 114, 105, 107, 101]⟩
abbrev n_Hall_2e_turn_to : Str := ⟨#[72, 97, 108, 108, 46, 116, 117, 114, 110, 95, 116, 111]⟩
abbrev n_Hall_2e_words : Str := ⟨#[72, 97, 108, 108, 46, 119, 111, 114, 100, 115]⟩
abbrev n_Lacking : Str := ⟨#[76, 97, 99, 107, 105, 110, 103]⟩
abbrev n_MOST_FIGURES : Str := ⟨#[77, 79, 83, 84, 95, 70, 73, 71, 85, 82, 69, 83]⟩
abbrev n_MOST_LINES : Str := ⟨#[77, 79, 83, 84, 95, 76, 73, 78, 69, 83]⟩
abbrev n_MOST_NAME : Str := ⟨#[77, 79, 83, 84, 95, 78, 65, 77, 69]⟩
abbrev n_MOST_NAMES : Str := ⟨#[77, 79, 83, 84, 95, 78, 65, 77, 69, 83]⟩
abbrev n_MOST_NUMBER : Str := ⟨#[77, 79, 83, 84, 95, 78, 85, 77, 66, 69, 82]⟩
abbrev n_MOST_SIDE : Str := ⟨#[77, 79, 83, 84, 95, 83, 73, 68, 69]⟩
abbrev n_MOST_WORD : Str := ⟨#[77, 79, 83, 84, 95, 87, 79, 82, 68]⟩
abbrev n_NoLine : Str := ⟨#[78, 111, 76, 105, 110, 101]⟩
abbrev n_SIGNS : Str := ⟨#[83, 73, 71, 78, 83]⟩
abbrev n_SpoorError : Str := ⟨#[83, 112, 111, 111, 114, 69, 114, 114, 111, 114]⟩
abbrev n_Stand : Str := ⟨#[83, 116, 97, 110, 100]⟩
abbrev n_Stand_2e___init__ : Str := ⟨#[83, 116, 97, 110, 100, 46, 95, 95, 105, 110, 105, 116, 95, 95]⟩
abbrev n_Stand_2e_with_known : Str := ⟨#[83, 116, 97, 110, 100, 46, 119, 105, 116, 104, 95, 107, 110, 111, 119, 110]⟩
abbrev n_Stand_2e_with_lines : Str := ⟨#[83, 116, 97, 110, 100, 46, 119, 105, 116, 104, 95, 108, 105, 110, 101, 115]⟩
abbrev n_Stand_2e_with_sheaf : Str := ⟨#[83, 116, 97, 110, 100, 46, 119, 105, 116, 104, 95, 115, 104, 101, 97, 102]⟩
abbrev n_TAKES : Str := ⟨#[84, 65, 75, 69, 83]⟩
abbrev n_WHAT : Str := ⟨#[87, 72, 65, 84]⟩
abbrev n__law_bag : Str := ⟨#[95, 108, 97, 119, 95, 98, 97, 103]⟩
abbrev n__law_begin : Str := ⟨#[95, 108, 97, 119, 95, 98, 101, 103, 105, 110]⟩
abbrev n__law_cell : Str := ⟨#[95, 108, 97, 119, 95, 99, 101, 108, 108]⟩
abbrev n__law_desk : Str := ⟨#[95, 108, 97, 119, 95, 100, 101, 115, 107]⟩
abbrev n__law_digit : Str := ⟨#[95, 108, 97, 119, 95, 100, 105, 103, 105, 116]⟩
abbrev n__law_due : Str := ⟨#[95, 108, 97, 119, 95, 100, 117, 101]⟩
abbrev n__law_found : Str := ⟨#[95, 108, 97, 119, 95, 102, 111, 117, 110, 100]⟩
abbrev n__law_many : Str := ⟨#[95, 108, 97, 119, 95, 109, 97, 110, 121]⟩
abbrev n__law_odd : Str := ⟨#[95, 108, 97, 119, 95, 111, 100, 100]⟩
abbrev n__law_one : Str := ⟨#[95, 108, 97, 119, 95, 111, 110, 101]⟩
abbrev n__law_other : Str := ⟨#[95, 108, 97, 119, 95, 111, 116, 104, 101, 114]⟩
abbrev n__law_pick : Str := ⟨#[95, 108, 97, 119, 95, 112, 105, 99, 107]⟩
abbrev n__law_pull : Str := ⟨#[95, 108, 97, 119, 95, 112, 117, 108, 108]⟩
abbrev n__law_row : Str := ⟨#[95, 108, 97, 119, 95, 114, 111, 119]⟩
abbrev n__law_salt : Str := ⟨#[95, 108, 97, 119, 95, 115, 97, 108, 116]⟩
abbrev n__law_same : Str := ⟨#[95, 108, 97, 119, 95, 115, 97, 109, 101]⟩
abbrev n__law_script : Str := ⟨#[95, 108, 97, 119, 95, 115, 99, 114, 105, 112, 116]⟩
abbrev n__law_text : Str := ⟨#[95, 108, 97, 119, 95, 116, 101, 120, 116]⟩
abbrev n__law_turn : Str := ⟨#[95, 108, 97, 119, 95, 116, 117, 114, 110]⟩
abbrev n_act : Str := ⟨#[97, 99, 116]⟩
abbrev n_ask : Str := ⟨#[97, 115, 107]⟩
abbrev n_bare_stand : Str := ⟨#[98, 97, 114, 101, 95, 115, 116, 97, 110, 100]⟩
abbrev n_coming : Str := ⟨#[99, 111, 109, 105, 110, 103]⟩
abbrev n_count : Str := ⟨#[99, 111, 117, 110, 116]⟩
abbrev n_deed : Str := ⟨#[100, 101, 101, 100]⟩
abbrev n_do : Str := ⟨#[100, 111]⟩
abbrev n_done : Str := ⟨#[100, 111, 110, 101]⟩
abbrev n_e : Str := ⟨#[101]⟩
abbrev n_extra : Str := ⟨#[101, 120, 116, 114, 97]⟩
abbrev n_forget : Str := ⟨#[102, 111, 114, 103, 101, 116]⟩
abbrev n_found : Str := ⟨#[102, 111, 117, 110, 100]⟩
abbrev n_gone : Str := ⟨#[103, 111, 110, 101]⟩
abbrev n_gone_rows : Str := ⟨#[103, 111, 110, 101, 95, 114, 111, 119, 115]⟩
abbrev n_hall : Str := ⟨#[104, 97, 108, 108]⟩
abbrev n_is_name : Str := ⟨#[105, 115, 95, 110, 97, 109, 101]⟩
abbrev n_is_word : Str := ⟨#[105, 115, 95, 119, 111, 114, 100]⟩
abbrev n_joined_text : Str := ⟨#[106, 111, 105, 110, 101, 100, 95, 116, 101, 120, 116]⟩
abbrev n_kept : Str := ⟨#[107, 101, 112, 116]⟩
abbrev n_known : Str := ⟨#[107, 110, 111, 119, 110]⟩
abbrev n_label : Str := ⟨#[108, 97, 98, 101, 108]⟩
abbrev n_laid : Str := ⟨#[108, 97, 105, 100]⟩
abbrev n_law : Str := ⟨#[108, 97, 119]⟩
abbrev n_left : Str := ⟨#[108, 101, 102, 116]⟩
abbrev n_like : Str := ⟨#[108, 105, 107, 101]⟩
abbrev n_line : Str := ⟨#[108, 105, 110, 101]⟩
abbrev n_lines : Str := ⟨#[108, 105, 110, 101, 115]⟩
abbrev n_name : Str := ⟨#[110, 97, 109, 101]⟩
abbrev n_need_name : Str := ⟨#[110, 101, 101, 100, 95, 110, 97, 109, 101]⟩
abbrev n_need_word : Str := ⟨#[110, 101, 101, 100, 95, 119, 111, 114, 100]⟩
abbrev n_now : Str := ⟨#[110, 111, 119]⟩
abbrev n_number : Str := ⟨#[110, 117, 109, 98, 101, 114]⟩
abbrev n_number_now : Str := ⟨#[110, 117, 109, 98, 101, 114, 95, 110, 111, 119]⟩
abbrev n_one : Str := ⟨#[111, 110, 101]⟩
abbrev n_page : Str := ⟨#[112, 97, 103, 101]⟩
abbrev n_paper : Str := ⟨#[112, 97, 112, 101, 114]⟩
abbrev n_papers : Str := ⟨#[112, 97, 112, 101, 114, 115]⟩
abbrev n_past : Str := ⟨#[112, 97, 115, 116]⟩
abbrev n_past_rows : Str := ⟨#[112, 97, 115, 116, 95, 114, 111, 119, 115]⟩
abbrev n_plain : Str := ⟨#[112, 108, 97, 105, 110]⟩
abbrev n_put : Str := ⟨#[112, 117, 116]⟩
abbrev n_read_number : Str := ⟨#[114, 101, 97, 100, 95, 110, 117, 109, 98, 101, 114]⟩
abbrev n_read_word : Str := ⟨#[114, 101, 97, 100, 95, 119, 111, 114, 100]⟩
abbrev n_redo : Str := ⟨#[114, 101, 100, 111]⟩
abbrev n_right : Str := ⟨#[114, 105, 103, 104, 116]⟩
abbrev n_rounds : Str := ⟨#[114, 111, 117, 110, 100, 115]⟩
abbrev n_row : Str := ⟨#[114, 111, 119]⟩
abbrev n_rows : Str := ⟨#[114, 111, 119, 115]⟩
abbrev n_say : Str := ⟨#[115, 97, 121]⟩
abbrev n_say_ask : Str := ⟨#[115, 97, 121, 95, 97, 115, 107]⟩
abbrev n_say_forget : Str := ⟨#[115, 97, 121, 95, 102, 111, 114, 103, 101, 116]⟩
abbrev n_say_laid : Str := ⟨#[115, 97, 121, 95, 108, 97, 105, 100]⟩
abbrev n_say_like : Str := ⟨#[115, 97, 121, 95, 108, 105, 107, 101]⟩
abbrev n_say_lines : Str := ⟨#[115, 97, 121, 95, 108, 105, 110, 101, 115]⟩
abbrev n_say_plain : Str := ⟨#[115, 97, 121, 95, 112, 108, 97, 105, 110]⟩
abbrev n_say_redo : Str := ⟨#[115, 97, 121, 95, 114, 101, 100, 111]⟩
abbrev n_say_shelf : Str := ⟨#[115, 97, 121, 95, 115, 104, 101, 108, 102]⟩
abbrev n_say_shelve : Str := ⟨#[115, 97, 121, 95, 115, 104, 101, 108, 118, 101]⟩
abbrev n_say_short : Str := ⟨#[115, 97, 121, 95, 115, 104, 111, 114, 116]⟩
abbrev n_say_strike : Str := ⟨#[115, 97, 121, 95, 115, 116, 114, 105, 107, 101]⟩
abbrev n_say_under : Str := ⟨#[115, 97, 121, 95, 117, 110, 100, 101, 114]⟩
abbrev n_say_undo : Str := ⟨#[115, 97, 121, 95, 117, 110, 100, 111]⟩
abbrev n_say_unshelve : Str := ⟨#[115, 97, 121, 95, 117, 110, 115, 104, 101, 108, 118, 101]⟩
abbrev n_say_word : Str := ⟨#[115, 97, 121, 95, 119, 111, 114, 100]⟩
abbrev n_say_words : Str := ⟨#[115, 97, 121, 95, 119, 111, 114, 100, 115]⟩
abbrev n_self : Str := ⟨#[115, 101, 108, 102]⟩
abbrev n_sheaf : Str := ⟨#[115, 104, 101, 97, 102]⟩
abbrev n_shelf : Str := ⟨#[115, 104, 101, 108, 102]⟩
abbrev n_shelve : Str := ⟨#[115, 104, 101, 108, 118, 101]⟩
abbrev n_short : Str := ⟨#[115, 104, 111, 114, 116]⟩
abbrev n_shown_word : Str := ⟨#[115, 104, 111, 119, 110, 95, 119, 111, 114, 100]⟩
abbrev n_sign : Str := ⟨#[115, 105, 103, 110]⟩
abbrev n_stand : Str := ⟨#[115, 116, 97, 110, 100]⟩
abbrev n_stood : Str := ⟨#[115, 116, 111, 111, 100]⟩
abbrev n_strike : Str := ⟨#[115, 116, 114, 105, 107, 101]⟩
abbrev n_text : Str := ⟨#[116, 101, 120, 116]⟩
abbrev n_things : Str := ⟨#[116, 104, 105, 110, 103, 115]⟩
abbrev n_told : Str := ⟨#[116, 111, 108, 100]⟩
abbrev n_turn_to : Str := ⟨#[116, 117, 114, 110, 95, 116, 111]⟩
abbrev n_under : Str := ⟨#[117, 110, 100, 101, 114]⟩
abbrev n_undo : Str := ⟨#[117, 110, 100, 111]⟩
abbrev n_unshelve : Str := ⟨#[117, 110, 115, 104, 101, 108, 118, 101]⟩
abbrev n_with_known : Str := ⟨#[119, 105, 116, 104, 95, 107, 110, 111, 119, 110]⟩
abbrev n_with_lines : Str := ⟨#[119, 105, 116, 104, 95, 108, 105, 110, 101, 115]⟩
abbrev n_with_sheaf : Str := ⟨#[119, 105, 116, 104, 95, 115, 104, 101, 97, 102]⟩
abbrev n_word : Str := ⟨#[119, 111, 114, 100]⟩
abbrev n_word_in : Str := ⟨#[119, 111, 114, 100, 95, 105, 110]⟩
abbrev n_word_name : Str := ⟨#[119, 111, 114, 100, 95, 110, 97, 109, 101]⟩
abbrev n_words : Str := ⟨#[119, 111, 114, 100, 115]⟩
def s0 : Stmt := top 21
/-- is_word -/
def f0 : Fn := ⟨1, 2, false, [.ret (.and_ (.cmp .le (.blt .len (.var 0)) (.glob n_MOST_WORD)) (.blt .all (.val (.lc [1] (.val (.var 0)) (.nm 1) [] (.cmp .isin (.var 1) (.glob n_SIGNS))))))]⟩
def s1 : Stmt := top 22
/-- need_word -/
def f1 : Fn := ⟨1, 1, false, [.ifs (.not_ (.call n_is_word [.var 0] [])) [.hole] []]⟩
def s2 : Stmt := mth (top 59) 0
/-- Stand.__init__ -/
def f2 : Fn := ⟨5, 5, false, [.setf (.var 0) n_rows (.var 1),
      .setf (.var 0) n_number_now (.var 2),
      .setf (.var 0) n_known (.var 3),
      .setf (.var 0) n_sheaf (.var 4)]⟩
def s3 : Stmt := mth (top 59) 1
/-- Stand.with_lines -/
def f3 : Fn := ⟨3, 3, true, [.ret (.make n_Stand [.var 1, .var 2, .fld (.var 0) n_known, .fld (.var 0) n_sheaf] [])]⟩
def s4 : Stmt := mth (top 59) 2
/-- Stand.with_known -/
def f4 : Fn := ⟨2, 2, true, [.ret (.make n_Stand [.fld (.var 0) n_rows, .fld (.var 0) n_number_now, .var 1, .fld (.var 0) n_sheaf] [])]⟩
def s5 : Stmt := mth (top 59) 3
/-- Stand.with_sheaf -/
def f5 : Fn := ⟨2, 2, true, [.ret (.make n_Stand [.fld (.var 0) n_rows, .fld (.var 0) n_number_now, .fld (.var 0) n_known, .var 1] [])]⟩
def s6 : Stmt := top 60
/-- bare_stand -/
def f6 : Fn := ⟨0, 0, true, [.ret (.make n_Stand [.val (.lst []), .cst (.int 1), .val (.dsp [] []), .val (.dsp [] [])] [])]⟩
def s7 : Stmt := top 61
/-- like -/
def f7 : Fn := ⟨3, 4, true, [.expr (.call n_need_word [.var 1] []),
      .expr (.call n_need_word [.var 2] []),
      .ifs (.or_ (.cmp .gt (.blt .len (.var 1)) (.glob n_MOST_SIDE)) (.cmp .gt (.blt .len (.var 2)) (.glob n_MOST_SIDE))) [.hole] [],
      .ifs (.or_ (.cmp .ge (.blt .len (.fld (.var 0) n_rows)) (.glob n_MOST_LINES)) (.cmp .ge (.fld (.var 0) n_number_now) (.glob n_MOST_NUMBER))) [.hole] [],
      .asg (.nm 3) (.fld (.var 0) n_number_now),
      .ret (.tup [.meth n_Stand (.var 0) n_with_lines [.bop .add (.fld (.var 0) n_rows) (.val (.lst [.tup [.var 3, .var 1, .var 2]])), .bop .add (.var 3) (.cst (.int 1))] [], .var 3])]⟩
def s8 : Stmt := top 62
/-- strike -/
def f8 : Fn := ⟨2, 8, true, [.ifs (.cmp .notin (.var 1) (.val (.lc [5] (.val (.fld (.var 0) n_rows)) (.nm 5) [] (.item (.var 5) (.cst (.int 0)))))) [.rais n_NoLine [.var 1]] [],
      .asg (.nm 2) (.val (.srt (.val (.lc [6] (.val (.fld (.var 0) n_sheaf)) (.nm 6) [.cmp .isin (.var 1) (.item (.item (.fld (.var 0) n_sheaf) (.var 6)) (.cst (.int 2)))] (.var 6))))),
      .asg (.nm 3) (.val (.dc [6, 7] (.items (.fld (.var 0) n_sheaf)) (.tp [.nm 6, .nm 7]) [.cmp .notin (.var 6) (.var 2)] (.var 6) (.var 7))),
      .asg (.nm 4) (.val (.lc [5] (.val (.fld (.var 0) n_rows)) (.nm 5) [.cmp .ne (.item (.var 5) (.cst (.int 0))) (.var 1)] (.var 5))),
      .ret (.tup [.meth n_Stand (.meth n_Stand (.var 0) n_with_lines [.var 4, .fld (.var 0) n_number_now] []) n_with_sheaf [.var 3] [], .var 2])]⟩
def s9 : Stmt := top 57
/-- is_name -/
def f9 : Fn := ⟨1, 2, false, [.ret (.and_ (.chn .le .le (.cst (.int 1)) (.blt .len (.var 0)) (.glob n_MOST_NAME)) (.blt .all (.val (.lc [1] (.val (.var 0)) (.nm 1) [] (.cmp .isin (.var 1) (.cst (.str ⟨#[97, 98, 99, 100, 101, 102, 103, 104, 105, 106, 107, 108, 109, 110, 111, 112, 113, 114, 115, 116, 117, 118, 119, 120, 121, 122]⟩)))))))]⟩
def s10 : Stmt := top 58
/-- need_name -/
def f10 : Fn := ⟨1, 1, false, [.ifs (.not_ (.call n_is_name [.var 0] [])) [.hole] []]⟩
def s11 : Stmt := top 63
/-- put -/
def f11 : Fn := ⟨3, 4, true, [.expr (.call n_need_name [.var 1] []),
      .expr (.call n_need_word [.var 2] []),
      .ifs (.and_ (.cmp .notin (.var 1) (.fld (.var 0) n_known)) (.cmp .ge (.blt .len (.fld (.var 0) n_known)) (.glob n_MOST_NAMES))) [.hole] [],
      .asg (.nm 3) (.loc (.dict (.fld (.var 0) n_known))),
      .seti (.var 3) (.var 1) (.var 2),
      .ret (.tup [.meth n_Stand (.var 0) n_with_known [.var 3] [], .cst (.non)])]⟩
def s12 : Stmt := top 70
/-- done -/
def f12 : Fn := ⟨3, 5, false, [.asg (.hd 3 4) (.var 1),
      .ifs (.cmp .eq (.var 3) (.cst (.str ⟨#[108, 105, 107, 101]⟩))) [.ret (.call n_like [.var 0, .item (.var 4) (.cst (.int 0)), .item (.var 4) (.cst (.int 1))] [])] [],
      .ifs (.cmp .eq (.var 3) (.cst (.str ⟨#[115, 116, 114, 105, 107, 101]⟩))) [.ret (.call n_strike [.var 0, .item (.var 4) (.cst (.int 0))] [])] [],
      .ifs (.cmp .eq (.var 3) (.cst (.str ⟨#[112, 117, 116]⟩))) [.ret (.call n_put [.var 0, .item (.var 4) (.cst (.int 0)), .item (.var 4) (.cst (.int 1))] [])] [],
      .ifs (.cmp .eq (.var 3) (.cst (.str ⟨#[102, 111, 114, 103, 101, 116]⟩))) [.ret (.hole)] [],
      .ifs (.cmp .eq (.var 3) (.cst (.str ⟨#[115, 104, 101, 108, 118, 101]⟩))) [.ret (.hole)] [],
      .ret (.hole)]⟩
def s13 : Stmt := mth (top 72) 0
/-- Hall.__init__ -/
def f13 : Fn := ⟨1, 1, false, [.setf (.var 0) n_now (.call n_bare_stand [] []),
      .setf (.var 0) n_past_rows (.val (.lst [])),
      .setf (.var 0) n_gone_rows (.val (.lst [])),
      .setf (.var 0) n_kept (.val (.dsp [] [])),
      .setf (.var 0) n_count (.cst (.int 0)),
      .setf (.var 0) n_extra (.val (.lst []))]⟩
def s14 : Stmt := mth (top 72) 4
/-- Hall.turn_to -/
def f14 : Fn := ⟨2, 2, false, [.ifs (.cmp .ne (.fld (.var 1) n_rows) (.fld (.fld (.var 0) n_now) n_rows)) [.setf (.var 0) n_kept (.val (.dsp [] []))] [],
      .setf (.var 0) n_now (.var 1)]⟩
def s15 : Stmt := mth (top 72) 5
/-- Hall.stood -/
def f15 : Fn := ⟨3, 3, false, [.setf (.var 0) n_past_rows (.bop .add (.fld (.var 0) n_past_rows) (.val (.lst [.fld (.var 0) n_now]))),
      .setf (.var 0) n_gone_rows (.val (.lst [])),
      .expr (.meth n_Hall (.var 0) n_turn_to [.var 1] []),
      .ret (.var 2)]⟩
def s16 : Stmt := mth (top 72) 6
/-- Hall.do -/
def f16 : Fn := ⟨3, 5, false, [.asg (.tp [.nm 3, .nm 4]) (.call n_done [.fld (.var 0) n_now, .var 1, .var 2] []),
      .ret (.meth n_Hall (.var 0) n_stood [.var 3, .var 4] [])]⟩
def s17 : Stmt := mth (top 72) 7
/-- Hall.like -/
def f17 : Fn := ⟨3, 3, false, [.ret (.meth n_Hall (.var 0) n_do [.tup [.cst (.str ⟨#[108, 105, 107, 101]⟩), .var 1, .var 2]] [.int 6])]⟩
def s18 : Stmt := mth (top 72) 8
/-- Hall.strike -/
def f18 : Fn := ⟨2, 2, false, [.ret (.meth n_Hall (.var 0) n_do [.tup [.cst (.str ⟨#[115, 116, 114, 105, 107, 101]⟩), .var 1]] [.int 6])]⟩
def s19 : Stmt := mth (top 72) 9
/-- Hall.put -/
def f19 : Fn := ⟨3, 3, false, [.ret (.meth n_Hall (.var 0) n_do [.tup [.cst (.str ⟨#[112, 117, 116]⟩), .var 1, .var 2]] [.int 6])]⟩
def s20 : Stmt := mth (top 72) 16
/-- Hall.past -/
def f20 : Fn := ⟨1, 1, false, [.ret (.tup [.blt .len (.fld (.var 0) n_past_rows), .blt .len (.fld (.var 0) n_gone_rows)])]⟩
def s21 : Stmt := mth (top 72) 18
/-- Hall.lines -/
def f21 : Fn := ⟨1, 1, false, [.ret (.val (.list (.fld (.fld (.var 0) n_now) n_rows)))]⟩
def s22 : Stmt := mth (top 72) 19
/-- Hall.coming -/
def f22 : Fn := ⟨1, 1, false, [.ret (.fld (.fld (.var 0) n_now) n_number_now)]⟩
def s23 : Stmt := mth (top 72) 20
/-- Hall.words -/
def f23 : Fn := ⟨1, 2, false, [.ret (.val (.lc [1] (.val (.val (.srt (.val (.list (.fld (.fld (.var 0) n_now) n_known)))))) (.nm 1) [] (.tup [.var 1, .item (.fld (.fld (.var 0) n_now) n_known) (.var 1)])))]⟩
def s24 : Stmt := mth (top 72) 24
/-- Hall.laid -/
def f24 : Fn := ⟨1, 1, false, [.ret (.fld (.var 0) n_count)]⟩
def s25 : Stmt := top 75
/-- shown_word -/
def f25 : Fn := ⟨1, 1, false, [.ret (.ife (.cmp .eq (.var 0) (.cst (.str ⟨#[]⟩))) (.cst (.str ⟨#[45]⟩)) (.var 0))]⟩
def s26 : Stmt := top 76
/-- read_word -/
def f26 : Fn := ⟨1, 1, false, [.ifs (.cmp .eq (.var 0) (.cst (.str ⟨#[45]⟩))) [.ret (.cst (.str ⟨#[]⟩))] [],
      .ret (.ife (.and_ (.cmp .ne (.var 0) (.cst (.str ⟨#[]⟩))) (.call n_is_word [.var 0] [])) (.var 0) (.cst (.non)))]⟩
def s27 : Stmt := top 77
/-- read_number -/
def f27 : Fn := ⟨1, 2, false, [.ifs (.or_ (.not_ (.chn .le .le (.cst (.int 1)) (.blt .len (.var 0)) (.glob n_MOST_FIGURES))) (.not_ (.blt .all (.val (.lc [1] (.val (.var 0)) (.nm 1) [] (.cmp .isin (.var 1) (.cst (.str ⟨#[48, 49, 50, 51, 52, 53, 54, 55, 56, 57]⟩)))))))) [.ret (.cst (.non))] [],
      .ret (.ife (.or_ (.cmp .eq (.var 0) (.cst (.str ⟨#[48]⟩))) (.cmp .ne (.item (.var 0) (.cst (.int 0))) (.cst (.str ⟨#[48]⟩)))) (.blt .int (.var 0)) (.cst (.non)))]⟩
def s28 : Stmt := top 78
/-- page -/
def f28 : Fn := ⟨1, 8, true, [.asg (.nm 1) (.loc (.lst [.fmt [.cst (.str ⟨#[99, 111, 109, 105, 110, 103, 32]⟩), .meth n_Hall (.var 0) n_coming [] []]])),
      .fors (.val (.meth n_Hall (.var 0) n_lines [] [])) (.tp [.nm 2, .nm 3, .nm 4]) [.expr (.bm1 .append (.var 1) (.fmt [.cst (.str ⟨#[108, 105, 107, 101, 32]⟩), .var 2, .cst (.str ⟨#[32]⟩), .call n_shown_word [.var 3] [], .cst (.str ⟨#[32]⟩), .call n_shown_word [.var 4] []]))],
      .fors (.val (.meth n_Hall (.var 0) n_words [] [])) (.tp [.nm 5, .nm 6]) [.expr (.bm1 .append (.var 1) (.fmt [.cst (.str ⟨#[119, 111, 114, 100, 32]⟩), .var 5, .cst (.str ⟨#[32]⟩), .call n_shown_word [.var 6] []]))],
      .ret (.bm1 .join (.cst (.str ⟨#[]⟩)) (.val (.lc [7] (.val (.var 1)) (.nm 7) [] (.bop .add (.var 7) (.cst (.str ⟨#[10]⟩))))))]⟩
def s29 : Stmt := top 83
/-- joined_text -/
def f29 : Fn := ⟨1, 2, false, [.ret (.ife (.cmp .ne (.var 0) (.val (.lst []))) (.bm1 .join (.cst (.str ⟨#[32]⟩)) (.val (.lc [1] (.val (.var 0)) (.nm 1) [] (.blt .str (.var 1))))) (.cst (.str ⟨#[110, 111, 110, 101]⟩)))]⟩
def s30 : Stmt := top 84
/-- word_in -/
def f30 : Fn := ⟨1, 2, false, [.asg (.nm 1) (.call n_read_word [.var 0] []),
      .ret (.ife (.cmp .is_ (.var 1) (.cst (.non))) (.var 0) (.var 1))]⟩
def s31 : Stmt := top 85
/-- say_like -/
def f31 : Fn := ⟨2, 2, false, [.ret (.blt .str (.meth n_Hall (.var 0) n_like [.call n_word_in [.item (.var 1) (.cst (.int 0))] [], .call n_word_in [.item (.var 1) (.cst (.int 1))] []] []))]⟩
def s32 : Stmt := top 86
/-- say_strike -/
def f32 : Fn := ⟨2, 3, false, [.asg (.nm 2) (.call n_read_number [.item (.var 1) (.cst (.int 0))] []),
      .ret (.ife (.cmp .is_ (.var 2) (.cst (.non))) (.glob n_WHAT) (.call n_joined_text [.meth n_Hall (.var 0) n_strike [.var 2] []] []))]⟩
def s33 : Stmt := top 87
/-- say_word -/
def f33 : Fn := ⟨2, 2, false, [.expr (.meth n_Hall (.var 0) n_put [.item (.var 1) (.cst (.int 0)), .call n_word_in [.item (.var 1) (.cst (.int 1))] []] []),
      .ret (.cst (.str ⟨#[100, 111, 110, 101]⟩))]⟩
def s34 : Stmt := mth (top 103) 0
/-- Desk.__init__ -/
def f34 : Fn := ⟨2, 2, false, [.setf (.var 0) n_hall (.ife (.cmp .is_ (.var 1) (.cst (.non))) (.make n_Hall [] []) (.var 1))]⟩
def s35 : Stmt := mth (top 103) 1
/-- Desk.say -/
def f35 : Fn := ⟨2, 6, false, [.asg (.hd 2 3) (.bm1 .split (.var 1) (.cst (.str ⟨#[32]⟩))),
      .ifs (.or_ (.cmp .notin (.var 2) (.glob n_DOES)) (.or_ (.cmp .ne (.blt .len (.var 3)) (.item (.glob n_TAKES) (.var 2))) (.cmp .isin (.cst (.str ⟨#[]⟩)) (.var 3)))) [.ret (.glob n_WHAT)] [],
      .asg (.nm 4) (.item (.glob n_DOES) (.var 2)),
      .try_ [.ret (.callv 4 [.fld (.var 0) n_hall, .var 3])] [.mk [n_SpoorError, n_Lacking] (some 5) [.ret (.fmt [.cst (.str ⟨#[110, 111, 32]⟩), .errf 5 n_word])]]]⟩
def s36 : Stmt := top 105
/-- _law_begin -/
def f36 : Fn := ⟨1, 3, false, [.asg (.nm 1) (.cst (.int 977)),
      .fors (.val (.slc (.var 0) (.hole) (.cst (.int 63)))) (.nm 2) [.asg (.nm 1) (.bop .mod (.bop .add (.bop .add (.bop .mul (.var 1) (.cst (.int 1009))) (.bop .mod (.var 2) (.cst (.int 2147483629)))) (.cst (.int 7))) (.cst (.int 2147483629)))],
      .ret (.loc (.lst [.val (.list (.slc (.var 0) (.hole) (.cst (.int 63)))), .cst (.int 0), .cst (.int 0), .var 1]))]⟩
def s37 : Stmt := top 106
/-- _law_pull -/
def f37 : Fn := ⟨2, 4, false, [.ifs (.and_ (.cmp .eq (.item (.var 0) (.cst (.int 2))) (.cst (.int 0))) (.cmp .lt (.item (.var 0) (.cst (.int 1))) (.blt .len (.item (.var 0) (.cst (.int 0)))))) [.asg (.nm 2) (.item (.item (.var 0) (.cst (.int 0))) (.item (.var 0) (.cst (.int 1)))),
      .seti (.var 0) (.cst (.int 1)) (.bop .add (.item (.var 0) (.cst (.int 1))) (.cst (.int 1))),
      .ifs (.cmp .ge (.var 2) (.bop .pow (.cst (.int 10)) (.cst (.int 18)))) [.seti (.var 0) (.cst (.int 2)) (.var 2)] [.seti (.var 0) (.cst (.int 3)) (.bop .mod (.bop .add (.bop .add (.bop .mul (.item (.var 0) (.cst (.int 3))) (.cst (.int 48271))) (.bop .mul (.bop .mod (.var 2) (.cst (.int 2147483629))) (.cst (.int 69621)))) (.cst (.int 12345))) (.cst (.int 2147483647)))]] [],
      .ifs (.cmp .gt (.item (.var 0) (.cst (.int 2))) (.cst (.int 0))) [.asg (.nm 3) (.bop .mod (.item (.var 0) (.cst (.int 2))) (.var 1)),
      .seti (.var 0) (.cst (.int 2)) (.bop .fdiv (.item (.var 0) (.cst (.int 2))) (.var 1)),
      .ret (.var 3)] [],
      .seti (.var 0) (.cst (.int 3)) (.bop .mod (.bop .add (.bop .add (.bop .mul (.bop .mod (.bop .mul (.item (.var 0) (.cst (.int 3))) (.item (.var 0) (.cst (.int 3)))) (.cst (.int 2147483629))) (.cst (.int 5))) (.bop .mul (.item (.var 0) (.cst (.int 3))) (.cst (.int 16807)))) (.cst (.int 2531011))) (.cst (.int 2147483647))),
      .ret (.bop .mod (.bop .add (.bop .fdiv (.item (.var 0) (.cst (.int 3))) (.cst (.int 61))) (.bop .mul (.bop .mod (.item (.var 0) (.cst (.int 3))) (.cst (.int 8191))) (.cst (.int 31)))) (.var 1))]⟩
def s38 : Stmt := top 107
/-- _law_pick -/
def f38 : Fn := ⟨2, 2, false, [.ret (.item (.var 1) (.call n__law_pull [.var 0, .blt .len (.var 1)] []))]⟩
def s39 : Stmt := top 108
/-- _law_same -/
def f39 : Fn := ⟨2, 4, false, [.ifs (.isi (.var 1) [.list, .tuple]) [.ifs (.or_ (.cmp .ne (.isi (.var 0) [.list]) (.isi (.var 1) [.list])) (.cmp .ne (.isi (.var 0) [.tuple]) (.isi (.var 1) [.tuple]))) [.ret (.cst (.bl false))] [],
      .ret (.and_ (.cmp .eq (.blt .len (.var 0)) (.blt .len (.var 1))) (.blt .all (.val (.lc [2, 3] (.zip (.var 0) (.var 1)) (.tp [.nm 2, .nm 3]) [] (.call n__law_same [.var 2, .var 3] [])))))] [],
      .ifs (.or_ (.cmp .is_ (.var 1) (.cst (.non))) (.cmp .is_ (.var 0) (.cst (.non)))) [.ret (.and_ (.cmp .is_ (.var 0) (.cst (.non))) (.cmp .is_ (.var 1) (.cst (.non))))] [],
      .ifs (.or_ (.cmp .ne (.isi (.var 0) [.bool]) (.isi (.var 1) [.bool])) (.cmp .ne (.isi (.var 0) [.int]) (.isi (.var 1) [.int]))) [.ret (.cst (.bl false))] [],
      .ret (.and_ (.cmp .eq (.isi (.var 0) [.str]) (.isi (.var 1) [.str])) (.cmp .eq (.var 0) (.var 1)))]⟩
def s40 : Stmt := top 109
/-- law -/
def f40 : Fn := ⟨1, 7, false, [.asg (.nm 1) (.call n__law_begin [.var 0] []),
      .asg (.nm 2) (.make n_Desk [] [.non]),
      .ifs (.cmp .ne (.val (.lst [.meth n_Desk (.var 2) n_say [.cst (.str ⟨#[108, 105, 107, 101, 32, 97, 98, 32, 98, 97]⟩)] [], .meth n_Desk (.var 2) n_say [.cst (.str ⟨#[119, 111, 114, 100, 32, 102, 32, 97, 66]⟩)] [], .meth n_Desk (.var 2) n_say [.cst (.str ⟨#[119, 111, 114, 100, 32, 103, 32, 45]⟩)] []])) (.val (.lst [.cst (.str ⟨#[49]⟩), .cst (.str ⟨#[100, 111, 110, 101]⟩), .cst (.str ⟨#[100, 111, 110, 101]⟩)]))) [.ret (.cst (.bl false))] [],
      .asg (.nm 3) (.val (.lst [.cst (.str ⟨#[]⟩), .cst (.str ⟨#[32]⟩), .cst (.str ⟨#[108, 105, 107, 101]⟩), .cst (.str ⟨#[108, 105, 107, 101, 32, 97]⟩), .cst (.str ⟨#[108, 105, 107, 101, 32, 97, 32, 98, 32, 99]⟩), .cst (.str ⟨#[115, 116, 114, 105, 107, 101]⟩), .cst (.str ⟨#[115, 116, 114, 105, 107, 101, 32, 120]⟩), .cst (.str ⟨#[115, 116, 114, 105, 107, 101, 32, 48, 49]⟩), .cst (.str ⟨#[115, 116, 114, 105, 107, 101, 32, 45, 49]⟩), .cst (.str ⟨#[115, 116, 114, 105, 107, 101, 32, 49, 32, 49]⟩), .cst (.str ⟨#[119, 111, 114, 100, 32, 102]⟩)])),
      .asg (.nm 3) (.bop .add (.var 3) (.val (.lst [.cst (.str ⟨#[119, 111, 114, 100, 32, 102, 32, 97, 32, 98]⟩), .cst (.str ⟨#[112, 117, 116, 32, 102, 32, 97]⟩), .cst (.str ⟨#[102, 111, 114, 103, 101, 116]⟩), .cst (.str ⟨#[102, 111, 114, 103, 101, 116, 32, 102, 32, 103]⟩), .cst (.str ⟨#[115, 104, 101, 108, 118, 101, 32, 112, 32, 102]⟩), .cst (.str ⟨#[115, 104, 101, 108, 118, 101, 32, 112, 32, 102, 32, 103, 32, 104]⟩), .cst (.str ⟨#[117, 110, 115, 104, 101, 108, 118, 101]⟩), .cst (.str ⟨#[117, 110, 100, 111, 32, 49]⟩)]))),
      .asg (.nm 3) (.bop .add (.var 3) (.val (.lst [.cst (.str ⟨#[114, 101, 100, 111, 32, 110, 111, 119]⟩), .cst (.str ⟨#[97, 115, 107, 32, 102]⟩), .cst (.str ⟨#[97, 115, 107, 32, 102, 32, 103, 32, 104]⟩), .cst (.str ⟨#[117, 110, 100, 101, 114, 32, 102]⟩), .cst (.str ⟨#[112, 108, 97, 105, 110]⟩), .cst (.str ⟨#[112, 108, 97, 105, 110, 32, 102, 32, 102]⟩), .cst (.str ⟨#[115, 104, 111, 114, 116]⟩), .cst (.str ⟨#[108, 105, 110, 101, 115, 32, 49]⟩), .cst (.str ⟨#[119, 111, 114, 100, 115, 32, 102]⟩), .cst (.str ⟨#[115, 104, 101, 108, 102, 32, 112]⟩)]))),
      .asg (.nm 3) (.bop .add (.var 3) (.val (.lst [.cst (.str ⟨#[108, 97, 105, 100, 32, 48]⟩), .cst (.str ⟨#[85, 110, 100, 111]⟩), .cst (.str ⟨#[117, 110, 100, 111, 32]⟩), .cst (.str ⟨#[32, 117, 110, 100, 111]⟩), .cst (.str ⟨#[97, 115, 107, 32, 32, 102, 32, 103]⟩), .cst (.str ⟨#[97, 115, 107, 32, 102, 32, 32, 103]⟩), .cst (.str ⟨#[97, 115, 107, 32, 102, 32, 103, 32]⟩), .cst (.str ⟨#[119, 104, 97, 116]⟩), .cst (.str ⟨#[112, 97, 103, 101]⟩), .cst (.str ⟨#[115, 116, 114, 105, 107, 101, 32, 49, 49, 49, 49, 49, 49, 49, 49, 49, 49]⟩)]))),
      .asg (.nm 3) (.bop .add (.var 3) (.val (.lst [.cst (.str ⟨#[108, 105, 107, 101, 32, 32, 97, 98]⟩), .cst (.str ⟨#[119, 111, 114, 100, 32, 32, 102, 32, 97]⟩), .cst (.str ⟨#[115, 116, 114, 105, 107, 101, 32, 43, 49]⟩), .cst (.str ⟨#[115, 116, 114, 105, 107, 101, 32, 49, 46, 48]⟩), .cst (.str ⟨#[76, 73, 75, 69, 32, 97, 32, 98]⟩), .cst (.str ⟨#[106, 117, 100, 103, 101, 32, 102, 32, 103]⟩), .cst (.str ⟨#[108, 105, 107, 101, 32, 97, 32, 32, 98]⟩)]))),
      .asg (.nm 4) (.call n_page [.fld (.var 2) n_hall] []),
      .fors (.rng [.cst (.int 12)]) (.nm 5) [.asg (.nm 6) (.call n__law_pick [.var 1, .var 3] []),
      .ifs (.cmp .eq (.call n__law_pull [.var 1, .cst (.int 4)] []) (.cst (.int 0))) [.asg (.nm 6) (.item (.val (.lst [.bop .add (.cst (.str ⟨#[32]⟩)) (.var 6), .bop .add (.var 6) (.cst (.str ⟨#[32]⟩)), .bop .add (.cst (.str ⟨#[120]⟩)) (.var 6)])) (.call n__law_pull [.var 1, .cst (.int 3)] []))] [],
      .ifs (.not_ (.call n__law_same [.meth n_Desk (.var 2) n_say [.var 6] [], .cst (.str ⟨#[119, 104, 97, 116]⟩)] [])) [.ret (.cst (.bl false))] [],
      .ifs (.not_ (.call n__law_same [.val (.lst [.call n_page [.fld (.var 2) n_hall] [], .meth n_Hall (.fld (.var 2) n_hall) n_past [] [], .meth n_Hall (.fld (.var 2) n_hall) n_laid [] []]), .val (.lst [.var 4, .tup [.cst (.int 3), .cst (.int 0)], .cst (.int 0)])] [])) [.ret (.cst (.bl false))] []],
      .ret (.and_ (.cmp .eq (.meth n_Desk (.var 2) n_say [.cst (.str ⟨#[115, 116, 114, 105, 107, 101, 32, 49]⟩)] []) (.cst (.str ⟨#[110, 111, 110, 101]⟩))) (.cmp .eq (.meth n_Desk (.var 2) n_say [.cst (.str ⟨#[115, 116, 114, 105, 107, 101, 32, 49]⟩)] []) (.cst (.str ⟨#[110, 111, 32, 110, 111, 108, 105, 110, 101]⟩))))]⟩
def fnTab : List (Str × Fn) := [(n_is_word, f0), (n_need_word, f1), (n_Stand_2e___init__, f2), (n_Stand_2e_with_lines, f3), (n_Stand_2e_with_known, f4), (n_Stand_2e_with_sheaf, f5), (n_bare_stand, f6), (n_like, f7), (n_strike, f8), (n_is_name, f9), (n_need_name, f10), (n_put, f11), (n_done, f12), (n_Hall_2e___init__, f13), (n_Hall_2e_turn_to, f14), (n_Hall_2e_stood, f15), (n_Hall_2e_do, f16), (n_Hall_2e_like, f17), (n_Hall_2e_strike, f18), (n_Hall_2e_put, f19), (n_Hall_2e_past, f20), (n_Hall_2e_lines, f21), (n_Hall_2e_coming, f22), (n_Hall_2e_words, f23), (n_Hall_2e_laid, f24), (n_shown_word, f25), (n_read_word, f26), (n_read_number, f27), (n_page, f28), (n_joined_text, f29), (n_word_in, f30), (n_say_like, f31), (n_say_strike, f32), (n_say_word, f33), (n_Desk_2e___init__, f34), (n_Desk_2e_say, f35), (n__law_begin, f36), (n__law_pull, f37), (n__law_pick, f38), (n__law_same, f39), (n_law, f40)]
def globTab : List (Str × D) := [(n_DOES, .wd [(n_like, .fn n_say_like), (n_strike, .fn n_say_strike), (n_word, .fn n_say_word), (n_forget, .fn n_say_forget), (n_shelve, .fn n_say_shelve), (n_unshelve, .fn n_say_unshelve), (n_undo, .fn n_say_undo), (n_redo, .fn n_say_redo), (n_ask, .fn n_say_ask), (n_under, .fn n_say_under), (n_plain, .fn n_say_plain), (n_short, .fn n_say_short), (n_lines, .fn n_say_lines), (n_words, .fn n_say_words), (n_shelf, .fn n_say_shelf), (n_laid, .fn n_say_laid)]),
  (n_MOST_FIGURES, .int 9),
  (n_MOST_LINES, .int 12),
  (n_MOST_NAME, .int 8),
  (n_MOST_NAMES, .int 20),
  (n_MOST_NUMBER, .int 999999999),
  (n_MOST_SIDE, .int 12),
  (n_MOST_WORD, .int 60),
  (n_SIGNS, .str ⟨#[97, 65, 98, 66, 99, 67, 100, 68, 101, 69, 102, 70, 103, 71, 104, 72]⟩),
  (n_TAKES, .wd [(n_like, .int 2), (n_strike, .int 1), (n_word, .int 2), (n_forget, .int 1), (n_shelve, .int 3), (n_unshelve, .int 1), (n_undo, .int 0), (n_redo, .int 0), (n_ask, .int 2), (n_under, .int 2), (n_plain, .int 1), (n_short, .int 1), (n_lines, .int 0), (n_words, .int 0), (n_shelf, .int 0), (n_laid, .int 0)]),
  (n_WHAT, .str ⟨#[119, 104, 97, 116]⟩)]
def fldTab : List (Str × Str) := [(n_Desk, n_hall), (n_Hall, n_count), (n_Hall, n_extra), (n_Hall, n_gone_rows), (n_Hall, n_kept), (n_Hall, n_now), (n_Hall, n_past_rows), (n_Stand, n_known), (n_Stand, n_number_now), (n_Stand, n_rows), (n_Stand, n_sheaf)]
def vals : List Str := [n_say_like, n_say_strike, n_say_word]
def xfTab : List (Str × Str) := [(n_NoLine, n_word), (n_NoLine, n_number)]
def subTab : List ((Str × Str) × Bool) := [((n_NoLine, n_Lacking), true), ((n_NoLine, n_SpoorError), false)]
def exTab : List (Str × (Str × List Str)) := [(n_NoLine, ((⟨#[110, 111, 108, 105, 110, 101]⟩ : Str), [n_number]))]
def missTab : List (Str × List (List D)) := [(n_Desk_2e___init__, [[.non]]), (n_Desk_2e_say, [[]]), (n_Hall_2e___init__, [[]]), (n_Hall_2e_coming, [[]]), (n_Hall_2e_do, [[.int 6]]), (n_Hall_2e_laid, [[]]), (n_Hall_2e_like, [[]]), (n_Hall_2e_lines, [[]]), (n_Hall_2e_past, [[]]), (n_Hall_2e_put, [[]]), (n_Hall_2e_stood, [[]]), (n_Hall_2e_strike, [[]]), (n_Hall_2e_turn_to, [[]]), (n_Hall_2e_words, [[]]), (n_Stand_2e___init__, [[]]), (n_Stand_2e_with_known, [[]]), (n_Stand_2e_with_lines, [[]]), (n_Stand_2e_with_sheaf, [[]]), (n__law_begin, [[]]), (n__law_pick, [[]]), (n__law_pull, [[]]), (n__law_same, [[]]), (n_bare_stand, [[]]), (n_done, [[]]), (n_is_name, [[]]), (n_is_word, [[]]), (n_joined_text, [[]]), (n_like, [[]]), (n_need_name, [[]]), (n_need_word, [[]]), (n_page, [[]]), (n_put, [[]]), (n_read_number, [[]]), (n_read_word, [[]]), (n_say_like, [[]]), (n_say_strike, [[]]), (n_say_word, [[]]), (n_shown_word, [[]]), (n_strike, [[]]), (n_word_in, [[]])]
def atTab : List (Str × (Str × Option Str)) := [(n_is_word, ((⟨#[105, 115, 95, 119, 111, 114, 100]⟩ : Str), none)), (n_need_word, ((⟨#[110, 101, 101, 100, 95, 119, 111, 114, 100]⟩ : Str), none)), (n_Stand_2e___init__, ((⟨#[83, 116, 97, 110, 100]⟩ : Str), some (⟨#[95, 95, 105, 110, 105, 116, 95, 95]⟩ : Str))), (n_Stand_2e_with_lines, ((⟨#[83, 116, 97, 110, 100]⟩ : Str), some (⟨#[119, 105, 116, 104, 95, 108, 105, 110, 101, 115]⟩ : Str))), (n_Stand_2e_with_known, ((⟨#[83, 116, 97, 110, 100]⟩ : Str), some (⟨#[119, 105, 116, 104, 95, 107, 110, 111, 119, 110]⟩ : Str))), (n_Stand_2e_with_sheaf, ((⟨#[83, 116, 97, 110, 100]⟩ : Str), some (⟨#[119, 105, 116, 104, 95, 115, 104, 101, 97, 102]⟩ : Str))), (n_bare_stand, ((⟨#[98, 97, 114, 101, 95, 115, 116, 97, 110, 100]⟩ : Str), none)), (n_like, ((⟨#[108, 105, 107, 101]⟩ : Str), none)), (n_strike, ((⟨#[115, 116, 114, 105, 107, 101]⟩ : Str), none)), (n_is_name, ((⟨#[105, 115, 95, 110, 97, 109, 101]⟩ : Str), none)), (n_need_name, ((⟨#[110, 101, 101, 100, 95, 110, 97, 109, 101]⟩ : Str), none)), (n_put, ((⟨#[112, 117, 116]⟩ : Str), none)), (n_done, ((⟨#[100, 111, 110, 101]⟩ : Str), none)), (n_Hall_2e___init__, ((⟨#[72, 97, 108, 108]⟩ : Str), some (⟨#[95, 95, 105, 110, 105, 116, 95, 95]⟩ : Str))), (n_Hall_2e_turn_to, ((⟨#[72, 97, 108, 108]⟩ : Str), some (⟨#[116, 117, 114, 110, 95, 116, 111]⟩ : Str))), (n_Hall_2e_stood, ((⟨#[72, 97, 108, 108]⟩ : Str), some (⟨#[115, 116, 111, 111, 100]⟩ : Str))), (n_Hall_2e_do, ((⟨#[72, 97, 108, 108]⟩ : Str), some (⟨#[100, 111]⟩ : Str))), (n_Hall_2e_like, ((⟨#[72, 97, 108, 108]⟩ : Str), some (⟨#[108, 105, 107, 101]⟩ : Str))), (n_Hall_2e_strike, ((⟨#[72, 97, 108, 108]⟩ : Str), some (⟨#[115, 116, 114, 105, 107, 101]⟩ : Str))), (n_Hall_2e_put, ((⟨#[72, 97, 108, 108]⟩ : Str), some (⟨#[112, 117, 116]⟩ : Str))), (n_Hall_2e_past, ((⟨#[72, 97, 108, 108]⟩ : Str), some (⟨#[112, 97, 115, 116]⟩ : Str))), (n_Hall_2e_lines, ((⟨#[72, 97, 108, 108]⟩ : Str), some (⟨#[108, 105, 110, 101, 115]⟩ : Str))), (n_Hall_2e_coming, ((⟨#[72, 97, 108, 108]⟩ : Str), some (⟨#[99, 111, 109, 105, 110, 103]⟩ : Str))), (n_Hall_2e_words, ((⟨#[72, 97, 108, 108]⟩ : Str), some (⟨#[119, 111, 114, 100, 115]⟩ : Str))), (n_Hall_2e_laid, ((⟨#[72, 97, 108, 108]⟩ : Str), some (⟨#[108, 97, 105, 100]⟩ : Str))), (n_shown_word, ((⟨#[115, 104, 111, 119, 110, 95, 119, 111, 114, 100]⟩ : Str), none)), (n_read_word, ((⟨#[114, 101, 97, 100, 95, 119, 111, 114, 100]⟩ : Str), none)), (n_read_number, ((⟨#[114, 101, 97, 100, 95, 110, 117, 109, 98, 101, 114]⟩ : Str), none)), (n_page, ((⟨#[112, 97, 103, 101]⟩ : Str), none)), (n_joined_text, ((⟨#[106, 111, 105, 110, 101, 100, 95, 116, 101, 120, 116]⟩ : Str), none)), (n_word_in, ((⟨#[119, 111, 114, 100, 95, 105, 110]⟩ : Str), none)), (n_say_like, ((⟨#[115, 97, 121, 95, 108, 105, 107, 101]⟩ : Str), none)), (n_say_strike, ((⟨#[115, 97, 121, 95, 115, 116, 114, 105, 107, 101]⟩ : Str), none)), (n_say_word, ((⟨#[115, 97, 121, 95, 119, 111, 114, 100]⟩ : Str), none)), (n_Desk_2e___init__, ((⟨#[68, 101, 115, 107]⟩ : Str), some (⟨#[95, 95, 105, 110, 105, 116, 95, 95]⟩ : Str))), (n_Desk_2e_say, ((⟨#[68, 101, 115, 107]⟩ : Str), some (⟨#[115, 97, 121]⟩ : Str))), (n__law_begin, ((⟨#[95, 108, 97, 119, 95, 98, 101, 103, 105, 110]⟩ : Str), none)), (n__law_pull, ((⟨#[95, 108, 97, 119, 95, 112, 117, 108, 108]⟩ : Str), none)), (n__law_pick, ((⟨#[95, 108, 97, 119, 95, 112, 105, 99, 107]⟩ : Str), none)), (n__law_same, ((⟨#[95, 108, 97, 119, 95, 115, 97, 109, 101]⟩ : Str), none)), (n_law, ((⟨#[108, 97, 119]⟩ : Str), none)), (n_say_forget, ((⟨#[115, 97, 121, 95, 102, 111, 114, 103, 101, 116]⟩ : Str), none)), (n_say_shelve, ((⟨#[115, 97, 121, 95, 115, 104, 101, 108, 118, 101]⟩ : Str), none)), (n_say_unshelve, ((⟨#[115, 97, 121, 95, 117, 110, 115, 104, 101, 108, 118, 101]⟩ : Str), none)), (n_say_undo, ((⟨#[115, 97, 121, 95, 117, 110, 100, 111]⟩ : Str), none)), (n_say_redo, ((⟨#[115, 97, 121, 95, 114, 101, 100, 111]⟩ : Str), none)), (n_say_ask, ((⟨#[115, 97, 121, 95, 97, 115, 107]⟩ : Str), none)), (n_say_under, ((⟨#[115, 97, 121, 95, 117, 110, 100, 101, 114]⟩ : Str), none)), (n_say_plain, ((⟨#[115, 97, 121, 95, 112, 108, 97, 105, 110]⟩ : Str), none)), (n_say_short, ((⟨#[115, 97, 121, 95, 115, 104, 111, 114, 116]⟩ : Str), none)), (n_say_lines, ((⟨#[115, 97, 121, 95, 108, 105, 110, 101, 115]⟩ : Str), none)), (n_say_words, ((⟨#[115, 97, 121, 95, 119, 111, 114, 100, 115]⟩ : Str), none)), (n_say_shelf, ((⟨#[115, 97, 121, 95, 115, 104, 101, 108, 102]⟩ : Str), none)), (n_say_laid, ((⟨#[115, 97, 121, 95, 108, 97, 105, 100]⟩ : Str), none))]
def tb : Tbl := ⟨fnTab, atTab, globTab, fldTab, vals, xfTab, subTab, exTab, missTab, 100⟩
abbrev P : Prg := tb.P
def Tb : Tab := { fns := [n__law_begin, n__law_pick, n__law_pull, n__law_same, n_bare_stand, n_done, n_is_name, n_is_word, n_joined_text, n_like, n_need_name, n_need_word, n_page, n_put, n_read_number, n_read_word, n_shown_word, n_strike, n_word_in], blts := [(⟨#[97, 108, 108]⟩ : Str), (⟨#[98, 111, 111, 108]⟩ : Str), (⟨#[100, 105, 99, 116]⟩ : Str), (⟨#[105, 110, 116]⟩ : Str), (⟨#[105, 115, 105, 110, 115, 116, 97, 110, 99, 101]⟩ : Str), (⟨#[108, 101, 110]⟩ : Str), (⟨#[108, 105, 115, 116]⟩ : Str), (⟨#[114, 97, 110, 103, 101]⟩ : Str), (⟨#[115, 111, 114, 116, 101, 100]⟩ : Str), (⟨#[115, 116, 114]⟩ : Str), (⟨#[116, 117, 112, 108, 101]⟩ : Str), (⟨#[122, 105, 112]⟩ : Str)], miss := tb.missB, meths := [(n_Desk, n_say), (n_Hall, n_coming), (n_Hall, n_do), (n_Hall, n_laid), (n_Hall, n_like), (n_Hall, n_lines), (n_Hall, n_past), (n_Hall, n_put), (n_Hall, n_stood), (n_Hall, n_strike), (n_Hall, n_turn_to), (n_Hall, n_words), (n_Stand, n_with_known), (n_Stand, n_with_lines), (n_Stand, n_with_sheaf)], mks := [n_Desk, n_Hall, n_Stand], exs := [n_NoLine], hcls := [n_Lacking, n_SpoorError] }
end K78
end
section
set_option Elab.async false
set_option linter.all false
set_option maxRecDepth 100000
set_option maxHeartbeats 0
namespace K78
open PySem PySem.Spec PyProof.Rows L2 Mp
def dd0 : He.DefD := ⟨((⟨#[105, 115, 95, 119, 111, 114, 100]⟩ : Str), none), (⟨#[105, 115, 95, 119, 111, 114, 100]⟩ : Str), (⟨#[105, 115, 95, 119, 111, 114, 100]⟩ : Str), defArgs s0, defBody s0, defScope s0, [], []⟩
def dd1 : He.DefD := ⟨((⟨#[110, 101, 101, 100, 95, 119, 111, 114, 100]⟩ : Str), none), (⟨#[110, 101, 101, 100, 95, 119, 111, 114, 100]⟩ : Str), (⟨#[110, 101, 101, 100, 95, 119, 111, 114, 100]⟩ : Str), defArgs s1, defBody s1, defScope s1, [], []⟩
def dd2 : He.DefD := ⟨((⟨#[83, 116, 97, 110, 100]⟩ : Str), some (⟨#[95, 95, 105, 110, 105, 116, 95, 95]⟩ : Str)), (⟨#[95, 95, 105, 110, 105, 116, 95, 95]⟩ : Str), (⟨#[83, 116, 97, 110, 100, 46, 95, 95, 105, 110, 105, 116, 95, 95]⟩ : Str), defArgs s2, defBody s2, defScope s2, [], []⟩
def dd3 : He.DefD := ⟨((⟨#[83, 116, 97, 110, 100]⟩ : Str), some (⟨#[119, 105, 116, 104, 95, 108, 105, 110, 101, 115]⟩ : Str)), (⟨#[119, 105, 116, 104, 95, 108, 105, 110, 101, 115]⟩ : Str), (⟨#[83, 116, 97, 110, 100, 46, 119, 105, 116, 104, 95, 108, 105, 110, 101, 115]⟩ : Str), defArgs s3, defBody s3, defScope s3, [], []⟩
def dd4 : He.DefD := ⟨((⟨#[83, 116, 97, 110, 100]⟩ : Str), some (⟨#[119, 105, 116, 104, 95, 107, 110, 111, 119, 110]⟩ : Str)), (⟨#[119, 105, 116, 104, 95, 107, 110, 111, 119, 110]⟩ : Str), (⟨#[83, 116, 97, 110, 100, 46, 119, 105, 116, 104, 95, 107, 110, 111, 119, 110]⟩ : Str), defArgs s4, defBody s4, defScope s4, [], []⟩
def dd5 : He.DefD := ⟨((⟨#[83, 116, 97, 110, 100]⟩ : Str), some (⟨#[119, 105, 116, 104, 95, 115, 104, 101, 97, 102]⟩ : Str)), (⟨#[119, 105, 116, 104, 95, 115, 104, 101, 97, 102]⟩ : Str), (⟨#[83, 116, 97, 110, 100, 46, 119, 105, 116, 104, 95, 115, 104, 101, 97, 102]⟩ : Str), defArgs s5, defBody s5, defScope s5, [], []⟩
def dd6 : He.DefD := ⟨((⟨#[98, 97, 114, 101, 95, 115, 116, 97, 110, 100]⟩ : Str), none), (⟨#[98, 97, 114, 101, 95, 115, 116, 97, 110, 100]⟩ : Str), (⟨#[98, 97, 114, 101, 95, 115, 116, 97, 110, 100]⟩ : Str), defArgs s6, defBody s6, defScope s6, [], []⟩
def dd7 : He.DefD := ⟨((⟨#[108, 105, 107, 101]⟩ : Str), none), (⟨#[108, 105, 107, 101]⟩ : Str), (⟨#[108, 105, 107, 101]⟩ : Str), defArgs s7, defBody s7, defScope s7, [], []⟩
def dd8 : He.DefD := ⟨((⟨#[115, 116, 114, 105, 107, 101]⟩ : Str), none), (⟨#[115, 116, 114, 105, 107, 101]⟩ : Str), (⟨#[115, 116, 114, 105, 107, 101]⟩ : Str), defArgs s8, defBody s8, defScope s8, [], []⟩
def dd9 : He.DefD := ⟨((⟨#[105, 115, 95, 110, 97, 109, 101]⟩ : Str), none), (⟨#[105, 115, 95, 110, 97, 109, 101]⟩ : Str), (⟨#[105, 115, 95, 110, 97, 109, 101]⟩ : Str), defArgs s9, defBody s9, defScope s9, [], []⟩
def dd10 : He.DefD := ⟨((⟨#[110, 101, 101, 100, 95, 110, 97, 109, 101]⟩ : Str), none), (⟨#[110, 101, 101, 100, 95, 110, 97, 109, 101]⟩ : Str), (⟨#[110, 101, 101, 100, 95, 110, 97, 109, 101]⟩ : Str), defArgs s10, defBody s10, defScope s10, [], []⟩
def dd11 : He.DefD := ⟨((⟨#[112, 117, 116]⟩ : Str), none), (⟨#[112, 117, 116]⟩ : Str), (⟨#[112, 117, 116]⟩ : Str), defArgs s11, defBody s11, defScope s11, [], []⟩
def dd12 : He.DefD := ⟨((⟨#[100, 111, 110, 101]⟩ : Str), none), (⟨#[100, 111, 110, 101]⟩ : Str), (⟨#[100, 111, 110, 101]⟩ : Str), defArgs s12, defBody s12, defScope s12, [], []⟩
def dd13 : He.DefD := ⟨((⟨#[72, 97, 108, 108]⟩ : Str), some (⟨#[95, 95, 105, 110, 105, 116, 95, 95]⟩ : Str)), (⟨#[95, 95, 105, 110, 105, 116, 95, 95]⟩ : Str), (⟨#[72, 97, 108, 108, 46, 95, 95, 105, 110, 105, 116, 95, 95]⟩ : Str), defArgs s13, defBody s13, defScope s13, [], []⟩
def dd14 : He.DefD := ⟨((⟨#[72, 97, 108, 108]⟩ : Str), some (⟨#[116, 117, 114, 110, 95, 116, 111]⟩ : Str)), (⟨#[116, 117, 114, 110, 95, 116, 111]⟩ : Str), (⟨#[72, 97, 108, 108, 46, 116, 117, 114, 110, 95, 116, 111]⟩ : Str), defArgs s14, defBody s14, defScope s14, [], []⟩
def dd15 : He.DefD := ⟨((⟨#[72, 97, 108, 108]⟩ : Str), some (⟨#[115, 116, 111, 111, 100]⟩ : Str)), (⟨#[115, 116, 111, 111, 100]⟩ : Str), (⟨#[72, 97, 108, 108, 46, 115, 116, 111, 111, 100]⟩ : Str), defArgs s15, defBody s15, defScope s15, [], []⟩
def dd16 : He.DefD := ⟨((⟨#[72, 97, 108, 108]⟩ : Str), some (⟨#[100, 111]⟩ : Str)), (⟨#[100, 111]⟩ : Str), (⟨#[72, 97, 108, 108, 46, 100, 111]⟩ : Str), defArgs s16, defBody s16, defScope s16, [.int 6], []⟩
def dd17 : He.DefD := ⟨((⟨#[72, 97, 108, 108]⟩ : Str), some (⟨#[108, 105, 107, 101]⟩ : Str)), (⟨#[108, 105, 107, 101]⟩ : Str), (⟨#[72, 97, 108, 108, 46, 108, 105, 107, 101]⟩ : Str), defArgs s17, defBody s17, defScope s17, [], []⟩
def dd18 : He.DefD := ⟨((⟨#[72, 97, 108, 108]⟩ : Str), some (⟨#[115, 116, 114, 105, 107, 101]⟩ : Str)), (⟨#[115, 116, 114, 105, 107, 101]⟩ : Str), (⟨#[72, 97, 108, 108, 46, 115, 116, 114, 105, 107, 101]⟩ : Str), defArgs s18, defBody s18, defScope s18, [], []⟩
def dd19 : He.DefD := ⟨((⟨#[72, 97, 108, 108]⟩ : Str), some (⟨#[112, 117, 116]⟩ : Str)), (⟨#[112, 117, 116]⟩ : Str), (⟨#[72, 97, 108, 108, 46, 112, 117, 116]⟩ : Str), defArgs s19, defBody s19, defScope s19, [], []⟩
def dd20 : He.DefD := ⟨((⟨#[72, 97, 108, 108]⟩ : Str), some (⟨#[112, 97, 115, 116]⟩ : Str)), (⟨#[112, 97, 115, 116]⟩ : Str), (⟨#[72, 97, 108, 108, 46, 112, 97, 115, 116]⟩ : Str), defArgs s20, defBody s20, defScope s20, [], []⟩
def dd21 : He.DefD := ⟨((⟨#[72, 97, 108, 108]⟩ : Str), some (⟨#[108, 105, 110, 101, 115]⟩ : Str)), (⟨#[108, 105, 110, 101, 115]⟩ : Str), (⟨#[72, 97, 108, 108, 46, 108, 105, 110, 101, 115]⟩ : Str), defArgs s21, defBody s21, defScope s21, [], []⟩
def dd22 : He.DefD := ⟨((⟨#[72, 97, 108, 108]⟩ : Str), some (⟨#[99, 111, 109, 105, 110, 103]⟩ : Str)), (⟨#[99, 111, 109, 105, 110, 103]⟩ : Str), (⟨#[72, 97, 108, 108, 46, 99, 111, 109, 105, 110, 103]⟩ : Str), defArgs s22, defBody s22, defScope s22, [], []⟩
def dd23 : He.DefD := ⟨((⟨#[72, 97, 108, 108]⟩ : Str), some (⟨#[119, 111, 114, 100, 115]⟩ : Str)), (⟨#[119, 111, 114, 100, 115]⟩ : Str), (⟨#[72, 97, 108, 108, 46, 119, 111, 114, 100, 115]⟩ : Str), defArgs s23, defBody s23, defScope s23, [], []⟩
def dd24 : He.DefD := ⟨((⟨#[72, 97, 108, 108]⟩ : Str), some (⟨#[108, 97, 105, 100]⟩ : Str)), (⟨#[108, 97, 105, 100]⟩ : Str), (⟨#[72, 97, 108, 108, 46, 108, 97, 105, 100]⟩ : Str), defArgs s24, defBody s24, defScope s24, [], []⟩
def dd25 : He.DefD := ⟨((⟨#[115, 104, 111, 119, 110, 95, 119, 111, 114, 100]⟩ : Str), none), (⟨#[115, 104, 111, 119, 110, 95, 119, 111, 114, 100]⟩ : Str), (⟨#[115, 104, 111, 119, 110, 95, 119, 111, 114, 100]⟩ : Str), defArgs s25, defBody s25, defScope s25, [], []⟩
def dd26 : He.DefD := ⟨((⟨#[114, 101, 97, 100, 95, 119, 111, 114, 100]⟩ : Str), none), (⟨#[114, 101, 97, 100, 95, 119, 111, 114, 100]⟩ : Str), (⟨#[114, 101, 97, 100, 95, 119, 111, 114, 100]⟩ : Str), defArgs s26, defBody s26, defScope s26, [], []⟩
def dd27 : He.DefD := ⟨((⟨#[114, 101, 97, 100, 95, 110, 117, 109, 98, 101, 114]⟩ : Str), none), (⟨#[114, 101, 97, 100, 95, 110, 117, 109, 98, 101, 114]⟩ : Str), (⟨#[114, 101, 97, 100, 95, 110, 117, 109, 98, 101, 114]⟩ : Str), defArgs s27, defBody s27, defScope s27, [], []⟩
def dd28 : He.DefD := ⟨((⟨#[112, 97, 103, 101]⟩ : Str), none), (⟨#[112, 97, 103, 101]⟩ : Str), (⟨#[112, 97, 103, 101]⟩ : Str), defArgs s28, defBody s28, defScope s28, [], []⟩
def dd29 : He.DefD := ⟨((⟨#[106, 111, 105, 110, 101, 100, 95, 116, 101, 120, 116]⟩ : Str), none), (⟨#[106, 111, 105, 110, 101, 100, 95, 116, 101, 120, 116]⟩ : Str), (⟨#[106, 111, 105, 110, 101, 100, 95, 116, 101, 120, 116]⟩ : Str), defArgs s29, defBody s29, defScope s29, [], []⟩
def dd30 : He.DefD := ⟨((⟨#[119, 111, 114, 100, 95, 105, 110]⟩ : Str), none), (⟨#[119, 111, 114, 100, 95, 105, 110]⟩ : Str), (⟨#[119, 111, 114, 100, 95, 105, 110]⟩ : Str), defArgs s30, defBody s30, defScope s30, [], []⟩
def dd31 : He.DefD := ⟨((⟨#[115, 97, 121, 95, 108, 105, 107, 101]⟩ : Str), none), (⟨#[115, 97, 121, 95, 108, 105, 107, 101]⟩ : Str), (⟨#[115, 97, 121, 95, 108, 105, 107, 101]⟩ : Str), defArgs s31, defBody s31, defScope s31, [], []⟩
def dd32 : He.DefD := ⟨((⟨#[115, 97, 121, 95, 115, 116, 114, 105, 107, 101]⟩ : Str), none), (⟨#[115, 97, 121, 95, 115, 116, 114, 105, 107, 101]⟩ : Str), (⟨#[115, 97, 121, 95, 115, 116, 114, 105, 107, 101]⟩ : Str), defArgs s32, defBody s32, defScope s32, [], []⟩
def dd33 : He.DefD := ⟨((⟨#[115, 97, 121, 95, 119, 111, 114, 100]⟩ : Str), none), (⟨#[115, 97, 121, 95, 119, 111, 114, 100]⟩ : Str), (⟨#[115, 97, 121, 95, 119, 111, 114, 100]⟩ : Str), defArgs s33, defBody s33, defScope s33, [], []⟩
def dd34 : He.DefD := ⟨((⟨#[68, 101, 115, 107]⟩ : Str), some (⟨#[95, 95, 105, 110, 105, 116, 95, 95]⟩ : Str)), (⟨#[95, 95, 105, 110, 105, 116, 95, 95]⟩ : Str), (⟨#[68, 101, 115, 107, 46, 95, 95, 105, 110, 105, 116, 95, 95]⟩ : Str), defArgs s34, defBody s34, defScope s34, [], [((⟨#[104, 97, 108, 108]⟩ : Str), .non)]⟩
def dd35 : He.DefD := ⟨((⟨#[68, 101, 115, 107]⟩ : Str), some (⟨#[115, 97, 121]⟩ : Str)), (⟨#[115, 97, 121]⟩ : Str), (⟨#[68, 101, 115, 107, 46, 115, 97, 121]⟩ : Str), defArgs s35, defBody s35, defScope s35, [], []⟩
def dd36 : He.DefD := ⟨((⟨#[95, 108, 97, 119, 95, 98, 101, 103, 105, 110]⟩ : Str), none), (⟨#[95, 108, 97, 119, 95, 98, 101, 103, 105, 110]⟩ : Str), (⟨#[95, 108, 97, 119, 95, 98, 101, 103, 105, 110]⟩ : Str), defArgs s36, defBody s36, defScope s36, [], []⟩
def dd37 : He.DefD := ⟨((⟨#[95, 108, 97, 119, 95, 112, 117, 108, 108]⟩ : Str), none), (⟨#[95, 108, 97, 119, 95, 112, 117, 108, 108]⟩ : Str), (⟨#[95, 108, 97, 119, 95, 112, 117, 108, 108]⟩ : Str), defArgs s37, defBody s37, defScope s37, [], []⟩
def dd38 : He.DefD := ⟨((⟨#[95, 108, 97, 119, 95, 112, 105, 99, 107]⟩ : Str), none), (⟨#[95, 108, 97, 119, 95, 112, 105, 99, 107]⟩ : Str), (⟨#[95, 108, 97, 119, 95, 112, 105, 99, 107]⟩ : Str), defArgs s38, defBody s38, defScope s38, [], []⟩
def dd39 : He.DefD := ⟨((⟨#[95, 108, 97, 119, 95, 115, 97, 109, 101]⟩ : Str), none), (⟨#[95, 108, 97, 119, 95, 115, 97, 109, 101]⟩ : Str), (⟨#[95, 108, 97, 119, 95, 115, 97, 109, 101]⟩ : Str), defArgs s39, defBody s39, defScope s39, [], []⟩
def dd40 : He.DefD := ⟨((⟨#[108, 97, 119]⟩ : Str), none), (⟨#[108, 97, 119]⟩ : Str), (⟨#[108, 97, 119]⟩ : Str), defArgs s40, defBody s40, defScope s40, [], []⟩
def x_Lacking : Stmt := mth (top 11) 0
def dx_Lacking : He.DefD := ⟨((⟨#[76, 97, 99, 107, 105, 110, 103]⟩ : Str), some (⟨#[95, 95, 105, 110, 105, 116, 95, 95]⟩ : Str)), (⟨#[95, 95, 105, 110, 105, 116, 95, 95]⟩ : Str), (⟨#[76, 97, 99, 107, 105, 110, 103, 46, 95, 95, 105, 110, 105, 116, 95, 95]⟩ : Str), defArgs x_Lacking, defBody x_Lacking, defScope x_Lacking, [], []⟩
def x_NoLine : Stmt := mth (top 14) 0
def dx_NoLine : He.DefD := ⟨((⟨#[78, 111, 76, 105, 110, 101]⟩ : Str), some (⟨#[95, 95, 105, 110, 105, 116, 95, 95]⟩ : Str)), (⟨#[95, 95, 105, 110, 105, 116, 95, 95]⟩ : Str), (⟨#[78, 111, 76, 105, 110, 101, 46, 95, 95, 105, 110, 105, 116, 95, 95]⟩ : Str), defArgs x_NoLine, defBody x_NoLine, defScope x_NoLine, [], []⟩
def fnD : List He.DefD := [dd0, dd1, dd2, dd3, dd4, dd5, dd6, dd7, dd8, dd9, dd10, dd11, dd12, dd13, dd14, dd15, dd16, dd17, dd18, dd19, dd20, dd21, dd22, dd23, dd24, dd25, dd26, dd27, dd28, dd29, dd30, dd31, dd32, dd33, dd34, dd35, dd36, dd37, dd38, dd39, dd40, dx_Lacking, dx_NoLine]
def ts : List He.Tab := [(fun K => He.ga K n_DOES, [n_like, n_strike, n_word, n_forget, n_shelve, n_unshelve, n_undo, n_redo, n_ask, n_under, n_plain, n_short, n_lines, n_words, n_shelf, n_laid]), (fun K => He.ga K n_TAKES, [n_like, n_strike, n_word, n_forget, n_shelve, n_unshelve, n_undo, n_redo, n_ask, n_under, n_plain, n_short, n_lines, n_words, n_shelf, n_laid])]
def ex (K : PySem.W.Frag) : Bool := (chk tb Tb K && (He.Fa.glo n_law).ok K) && exB K n_NoLine n_Lacking [n_number] [.type "LookupError", .type "Exception", .type "BaseException", .type "object"] "LookupError.__new__"
abbrev R : PySem.W.OpenRow := PySem.W.OpenLaw.row PySem.Challenge.rw_spoorfold_k78_rows_that_a_desk_knows_not
def asl : List Addr := [2, 3, 34, 35, 36, 37, 38, 39, 54, 55, 56, 57, 58, 206, 207, 208, 209, 210, 211, 264, 265, 266, 267, 268, 300, 301, 307, 308, 767, 768, 774, 775, 788, 789, 795, 796, 802, 803, 809, 810, 814, 815, 821, 822, 823, 824, 825, 826, 827, 835, 836, 842, 843, 847, 848, 854, 855, 893, 894, 907, 908, 914, 915, 921, 922, 928, 929, 935, 936, 942, 943, 944, 950, 951, 957, 958, 964, 965, 971, 972, 978, 979, 980, 986, 987, 993, 994, 1000, 1001, 1007, 1008, 1014, 1015, 1021, 1022, 1028, 1029, 1035, 1036, 1042, 1043, 1047, 1048, 1054, 1055, 1061, 1062, 1068, 1069, 1075, 1076, 1082, 1083, 1089, 1090, 1096, 1097, 1098, 1104, 1105, 1106, 1112, 1113, 1114, 1120, 1121, 1127, 1128, 1129, 1130, 1131, 1132, 1133, 1141, 1142, 1148, 1149, 1153, 1154, 1158, 1159, 1262, 1263, 1269, 1270, 1276, 1277, 1283, 1284, 1290, 1291, 1297, 1298, 1304, 1305, 1311, 1312, 1318, 1319, 1325, 1326, 1332, 1333, 1339, 1340, 1346, 1347, 1353, 1354, 1358, 1359, 1363, 1364, 1370, 1371, 1377, 1378, 1379, 1380, 1388, 1394, 1395, 1401, 1402, 1403, 1404, 1405, 1406, 1407, 1415, 1416, 1422, 1423, 1429, 1430, 1434, 1435, 1441, 1442]
abbrev hk : PySem.W.Hook := hookA asl fnD ts ex
def ob (s : PySem.W.SharedT) : AlM := obsA asl fnD ts ex (HandSHeadRun.getT s)
def loose : List Str := (["_wall", "__name__", "SpoorError", "BadWord", "BadName", "BadWorld", "BadRounds", "TooLong", "Taken", "Full", "Unproved", "Lacking", "NoPlace", "NoName", "NoLine", "NothingLeft", "LETTERS", "SIGNS", "MOST_WORD", "is_letter", "is_word", "need_word", "need_pairs", "turned_sign", "turned", "shortened", "reduced", "rank", "NAMED", "is_number"] : List Str) ++ (["named_by", "lean_paper", "Sheet", "MOST_PLACES", "World", "ROUNDS", "MOST_ROUNDS", "MOST_LAID", "need_rounds", "Web", "judged", "needed", "matched", "alike", "MOST_LINES", "MOST_NAMES", "MOST_PAPERS", "MOST_SIDE", "MOST_NUMBER", "MOST_NAME", "is_name", "need_name", "Stand", "bare_stand", "like", "strike", "put", "forget", "used_by", "renumbered"] : List Str) ++ (["kept_paper", "shelve", "unshelve", "done", "Hall", "MOST_FIGURES", "shown_word", "read_word", "read_number", "page", "Track", "WHAT", "joined_text", "word_in", "say_like", "say_strike", "say_word", "say_forget", "say_shelve", "say_unshelve", "say_undo", "say_redo", "say_ask", "say_under", "say_plain", "say_short", "say_lines", "say_words", "say_shelf", "say_laid"] : List Str) ++ (["DOES", "TAKES", "Desk", "_law_begin", "_law_pull", "_law_pick", "_law_same"] : List Str)
abbrev q0 : Program := PySem.W.view R.prog [109]
theorem looksF' (w : World) : LooksEq R q0 11200 loose (w.withFollow "special-get-raises" false) := by
  intro os
  kernel_rfl
theorem looksT' (w : World) : LooksEq R q0 11200 loose (w.withFollow "special-get-raises" true) := by
  intro os
  kernel_rfl
theorem tellsF' (w : World) : TellsEq R hk ob 11200 (w.withFollow "special-get-raises" false) := by
  intro os
  kernel_rfl
theorem tellsT' (w : World) : TellsEq R hk ob 11200 (w.withFollow "special-get-raises" true) := by
  intro os
  kernel_rfl
theorem runF (w : World) : HandSHeadRun.RunEq R q0 hk ob 11200 loose (w.withFollow "special-get-raises" false) := runEq_of (looksF' w) (tellsF' w)
theorem runT (w : World) : HandSHeadRun.RunEq R q0 hk ob 11200 loose (w.withFollow "special-get-raises" true) := runEq_of (looksT' w) (tellsT' w)
theorem run (w : World) : HandSHeadRun.RunEq R q0 hk ob 11200 loose w := PySem.W.byRow2 "special-get-raises" runF runT w
end K78
end
section
set_option Elab.async false
set_option linter.all false
set_option maxRecDepth 100000
set_option maxHeartbeats 2000000
/-! Mp: what the evaluator says of an expression holds of the text. -/
namespace Mp
open PySem PySem.Spec PyProof.Rows L2

/-- what a call hands back -/
def PostC (G : Cfg) (ρ : Lo) (H : Hp) (Q : VK) (E : XK) : R D → Sto → Prop
  | .ok d, st' => ∀ ρ' H' v, Step ρ ρ' H H' → Rel G ρ' H' st' → RelP G ρ' H' d v → Q v H'
  | .ex x, st' => ∀ ρ' H' dd fs', Step ρ ρ' H H' → Rel G ρ' H' st' → ExR G ρ' H' x dd fs' → E (.ref (G.cA x.cls)) (some dd) H'
/-- a def's promise: what the evaluator says -/
def spI (G : Cfg) (P : Prg) (k : Nat) (f : Str) : Sp := fun vs H Q E => ∃ ρ st xs r st', Rel G ρ H st ∧ RelPs G ρ H xs vs ∧ callF P k f xs st = some (r, st') ∧ PostC G ρ H Q E r st'
/-- the def at f keeps it -/
structure FnFact (G : Cfg) (P : Prg) (k : Nat) (T : Tab) (X : Cx) (f : Str) : Prop where
  ok : ∃ fd ps, FnOk X.prog X.w X.K X.mg X.base (L2.CX X.prog X.w) (2 * k + 2) (G.fA f) fd ps (spI G P k f) ∧ ∀ ds, T.miss f ds = true → ∃ us dvs, Binds X.K fd ps us ∧ Vals dvs us ∧ ∀ ρ H, RelPs G ρ H ds dvs
  kp : PySem.W.keepIn X.K (.ref (G.fA f)) = true
/-- the facts of the text that a body leans on -/
structure Fx (G : Cfg) (P : Prg) (k : Nat) (T : Tab) (X : Cx) : Prop where
  glob : ∀ x d, P.glob x = some d → ∃ u v, X.mg x = some u ∧ RelV v u ∧ ∀ ρ H, RelP G ρ H d v
  blt : ∀ x, T.blts.contains x = true → X.mg x = none
  fld : ∀ C f, P.fld C f = true → Cls G.K (G.cA C) ∧ NoAttr G.K (G.cA C) f
  fns : ∀ f, T.fns.contains f = true → FnFact G P k T X f ∧ X.mg f = some (.ref (G.fA f))
  vals : ∀ f, P.vals.contains f = true → FnFact G P k T X f ∧ T.miss f [] = true
  meths : ∀ C m, T.meths.contains (C, m) = true → FnFact G P k T X (C ++ "." ++ m) ∧ Cls X.K (G.cA C) ∧ Meth X.K (G.cA C) m (G.fA (C ++ "." ++ m))
  hs : ∀ d, T.hcls.contains d = true → X.mg d = some (.ref (G.cA d))
  exm : ∀ c d b, P.wld.sub c d = some b → T.hcls.contains d = true → PySem.W.exmOne X.K (.ref (G.cA c)) (.ref (G.cA d)) = some b
  xf : ∀ C f, P.xfld C f = true → XfC X.K (G.cA C) ∧ PySem.W.findIn X.K (.ref (G.cA C)) f = some none
  exs : ∀ C, T.exs.contains C = true → ∃ w fs, P.wld.exw C = some (w, fs) ∧ ∀ (Y : Cx), Y.prog = X.prog → Y.w = X.w → Y.K = X.K → Y.mg = X.mg → Y.base = X.base → Room 3 Y.A → Gl Y C → ∀ (es : List PySem.Expr) (ta : TA) (p pos : Pos), PA Y es ta → plainAllB es = true → (es = [] → ∀ σ H Q, ta σ H Q → Q [] H) →
    PMk Y (.Call (.Name C p) es [] pos) (fun σ H Q => ta σ H fun vs H1 => vs.length = fs.length ∧ ∀ d, H1 d = none → Q (.ref (G.cA C)) (some d) (upd H1 d (.xd (mkFs (V.str w) fs vs))))
  mks : ∀ C, T.mks.contains C = true → FnFact G P k T X (C ++ ".__init__") ∧ Mk X.K (G.cA C) (G.fA (C ++ ".__init__")) ∧ X.mg C = some (.ref (G.cA C))
theorem Fx.of {G : Cfg} {P : Prg} {k : Nat} {T : Tab} {X Y : Cx} (h : Fx G P k T X) (h1 : Y.prog = X.prog) (h2 : Y.w = X.w) (h3 : Y.K = X.K) (h4 : Y.mg = X.mg) (h5 : Y.base = X.base) : Fx G P k T Y := by
  have ff : ∀ {f}, FnFact G P k T X f → FnFact G P k T Y f := fun q => ⟨by rw [h1, h2, h3, h4, h5]; exact q.ok, by rw [h3]; exact q.kp⟩
  exact ⟨by rw [h4]; exact h.glob, by rw [h4]; exact h.blt, h.fld, fun f q => by rw [h4]; exact ⟨ff (h.fns f q).1, (h.fns f q).2⟩, fun f q => ⟨ff (h.vals f q).1, (h.vals f q).2⟩,
    fun C m q => by rw [h3]; exact ⟨ff (h.meths C m q).1, (h.meths C m q).2⟩, by rw [h4]; exact h.hs, by rw [h3]; exact h.exm, by rw [h3]; exact h.xf, fun C q => by
      obtain ⟨w, fs, e, r⟩ := h.exs C q
      exact ⟨w, fs, e, fun Z a1 a2 a3 a4 a5 => r Z (a1.trans h1) (a2.trans h2) (a3.trans h3) (a4.trans h4) (a5.trans h5)⟩, fun C q => by rw [h3, h4]; exact ⟨ff (h.mks C q).1, (h.mks C q).2⟩⟩
/-- in a suite: what is handled -/
def HndOk (G : Cfg) (P : Prg) (S : Sc) (X : Cx) (W : Cw) (ex : Option Ex) : Prop := ∀ i, S.hnd = some i → ∃ h, W.h = some h ∧ h.slot = i ∧ ex = some ⟨h.cls, h.fs⟩ ∧
  ∀ f, P.xfld h.cls f = true → ∀ (e : PySem.Expr) (te : TE) (pos : Pos), PE X e te → baseB e = true → PE X (.Attribute e f pos) (tXf h.a (.ref (G.cA h.cls)) (some h.dd) (G.cA h.cls) f te)
structure Good (G : Cfg) (P : Prg) (k : Nat) (S : Sc) (X : Cx) : Prop where
  K : X.K = G.K
  w : X.w = G.w
  N : X.N = S.N
  nd : S.N.Nodup
  calm : S.calm = true → X.calm = true
  sc : X.env.scope = S.sc
  fn : ∀ x, S.fn x = true → X.fn x = true
  room : S.calm = true → Room (2 * k + 3) X.A
  un : X.A.units + 64 < cLine
  fx : Fx G P k S.T X
structure Gd (G : Cfg) (P : Prg) (k : Nat) (S : Sc) (X : Cx) (W : Cw) (ex : Option Ex) : Prop extends Good G P k S X where
  tk : Takes X W.x
  hd : HndOk G P S X W ex
  hn : ∀ h, W.h = some h → S.hnd = some h.slot
section
variable {G : Cfg} {P : Prg} {k : Nat} {S : Sc} {X : Cx} {ex : Option Ex}
theorem Good.hK (g : Good G P k S X) : X.K = G.K := g.K
theorem Good.hu (g : Good G P k S X) : X.A.units + 64 < cLine := g.un
theorem Good.hu1 (g : Good G P k S X) : X.A.units + 1 < cLine := by have := g.un; omega
theorem vis_of (g : Good G P k S X) {x : Str} (h : visB S.sc x = true) : Vis X.env.scope x := by
  rw [g.sc]
  unfold visB at h
  split at h
  · rename_i e
    exact .inl e
  · rename_i e
    exact .inr (.inl e)
  · rename_i e
    exact .inr (.inr e)
  · cases h
theorem glo_of (g : Good G P k S X) {x : Str} (h : gloB S.sc x = true) : Gl X x := by
  unfold gloB at h
  split at h
  · rename_i e
    show X.env.scope.names.lookup x = _
    rw [g.sc]
    exact e
  · cases h
theorem loc_of (g : Good G P k S X) {x : Str} (h : locB S x = true) : Loc X.env.scope x ∧ (X.fn x = true ∨ X.env.scope.names.lookup x = some .local) := by
  rw [g.sc]
  unfold locB at h
  split at h
  · rename_i e
    exact ⟨.inl e, .inr e⟩
  · rename_i e
    exact ⟨.inr e, .inl (g.fn x h)⟩
  · cases h
theorem dun_of {x : Str} (h : (!isDunder x) = true) : (x == ("__debug__" : Str)) = false ∧ (x == ("__classdict__" : Str)) = false ∧ x ≠ "__name__" := by
  unfold isDunder at h
  simp only [Bool.not_eq_true', Bool.or_eq_false_iff, decide_eq_false_iff_not] at h
  exact ⟨by simpa using h.1.1, by simpa using h.1.2, h.2⟩
theorem slot_of (g : Good G P k S X) {i : Nat} {x : Str} (h : slotB S i x = true) : X.N[i]? = some x ∧ (x == ("__debug__" : Str)) = false ∧ (x == ("__classdict__" : Str)) = false := by
  obtain ⟨h1, h2⟩ := band h
  obtain ⟨d1, d2, _⟩ := dun_of h2
  exact ⟨by rw [g.N]; exact of_decide_eq_true h1, d1, d2⟩
/-- a test by its value -/
theorem PT_val {e : PySem.Expr} {p : PX} {W : Cw} {O : Orc} (hK : X.K = G.K) (h : PE X e (tE G W O p)) (he : ∀ whole, isTrue e X.env whole = (do let v ← whole; standAt e.pos; holding [v] (truthy v))) : PT X e (tT G W O p) := by
  refine PT_imp (pt_truth h he) fun σ H Q q => ?_
  obtain ⟨ρ, st, env, r, st', h1, h2, h3, h4⟩ := q
  refine tG_bind h1 h2 h3 h4 fun x s1 ρ1 H1 v hm f1 s r1 rp e1 p1 => ?_
  obtain ⟨b, z1, rfl, rfl⟩ := onSt_of f1
  refine ⟨b, by rw [hK]; exact truth_ok r1 rp z1, p1 ρ1 H1 b Step.refl r1 rfl⟩
theorem tG_ret {α β : Type} {rel : Lo → Hp → α → β → Prop} {ρ : Lo} {H : Hp} {W : Cw} {σ : L2.St} {Q : β → Hp → Prop} {a : α} {b : β} {st : Sto} {r : R α} {st' : Sto} (e : M.ok a st = some (r, st')) (hp : PostG G rel ρ H W σ Q r st') (h1 : Rel G ρ H st) (h2 : rel ρ H a b) : Q b H := by
  obtain ⟨rfl, rfl⟩ := ok_of e
  exact hp ρ H b Step.refl h1 h2
theorem post_on {ρ : Lo} {H : Hp} {W : Cw} {σ : L2.St} {Q : VK} {f : Sto → Option D} {st : Sto} {r : R D} {st' : Sto} (e : onSt f st = some (r, st')) (hp : PostG G (RelP G) ρ H W σ Q r st') :
    ∃ d, f st = some d ∧ ∀ ρ' H' w, Step ρ ρ' H H' → Rel G ρ' H' st → RelP G ρ' H' d w → Q w H' := by
  obtain ⟨d, z1, rfl, rfl⟩ := onSt_of e
  exact ⟨d, z1, hp⟩
theorem glob_ok (g : Good G P k S X) {x : Str} {pos : Pos} {W : Cw} (h : gloB S.sc x = true) (hd : (!isDunder x) = true) : PE X (.Name x pos) (tE G W (orcX P (callF P k) ex) (.glob x)) := by
  by_cases hg : ∃ d, P.glob x = some d
  · obtain ⟨d, hg⟩ := hg
    obtain ⟨u, v, h1, h2, h3⟩ := g.fx.glob x d hg
    refine PE_imp (pe_glob (glo_of g h) h1 h2 (dun_of hd).1) fun σ H Q q => ?_
    obtain ⟨ρ, st, env, r, st', q1, q2, q3, q4⟩ := q
    obtain ⟨a, z1, rfl, rfl⟩ := lift_of (show M.lift (P.glob x) st = some (r, st') from q3)
    rw [hg] at z1
    cases z1
    exact q4 ρ H v Step.refl q1 (h3 ρ H)
  · refine ⟨fun pins s σ H Q I q => ?_⟩
    obtain ⟨ρ, st, env, r, st', q1, q2, q3, q4⟩ := q
    obtain ⟨a, z1, rfl, rfl⟩ := lift_of (show M.lift (P.glob x) st = some (r, st') from q3)
    exact absurd ⟨a, z1⟩ hg
theorem const_ok {d : D} {c : Const} {j : Nat} {pos : Pos} {W : Cw} {O : Orc} (h : constB d c = true) : PE X (.Constant c j pos) (tE G W O (.cst d)) := by
  have fin : ∀ {v : V}, (∀ ρ H, RelP G ρ H d v) → ∀ σ H Q, tE G W O (.cst d) σ H Q → tC v σ H Q := fun hv σ H Q q => by
    obtain ⟨ρ, st, env, r, st', q1, q2, q3, q4⟩ := q
    exact tG_ret (show M.ok d st = some (r, st') from q3) q4 q1 (hv ρ H)
  cases d with
  | non =>
    cases c <;> first | (cases h; done) | exact PE_imp pe_non (fin fun _ _ => rfl)
  | bl a =>
    cases c <;> first | (cases h; done) | (have e := of_decide_eq_true h; subst e; exact PE_imp pe_bl (fin fun _ _ => rfl))
  | int a =>
    cases c <;> first | (cases h; done) | (have e := of_decide_eq_true h; subst e; exact PE_imp pe_int (fin fun _ _ => rfl))
  | str a =>
    cases c <;> first | (cases h; done) | (have e := of_decide_eq_true h; subst e; exact PE_imp pe_str (fin fun _ _ => rfl))
  | _ => cases h
theorem boolop2_and {a b : PySem.Expr} {pos : Pos} {ta tb : TE} (ha : PE X a ta) (hb : PE X b tb) : PE X (.BoolOp .And [a, b] pos) (tAndT X.K ta tb) := pe_andT ha (pe_one hb)
theorem boolop2_or {a b : PySem.Expr} {pos : Pos} {ta tb : TE} (ha : PE X a ta) (hb : PE X b tb) : PE X (.BoolOp .Or [a, b] pos) (tOrT X.K ta tb) := pe_orT ha (pe_one hb)
theorem isTrue_ife {c a b : PySem.Expr} {pos : Pos} {tc ta tb : TT} (hc : PT X c tc) (ha : PT X a ta) (hb : PT X b tb) : PT X (.IfExp c a b pos) (fun σ H Q => tc σ H fun z H1 => if z = true then ta σ H1 Q else tb σ H1 Q) := by
  refine ⟨fun pins s σ H Q I h => ?_⟩
  show wpAny _ _ (do if ← isTrue c X.env (eval c X.env) then isTrue a X.env (eval a X.env) else isTrue b X.env (eval b X.env)) _ _ _
  refine wpAny_bind (thn (hc.run pins s σ H _ I h) fun z s1 ⟨H1, I1, q⟩ => ?_)
  cases z with
  | true => exact ha.run pins s1 σ H1 Q I1 q
  | false => exact hb.run pins s1 σ H1 Q I1 q
theorem evEs_len {O : Orc} : ∀ {ps : List PX} {env : Env} {st : Sto} {xs : List D} {st' : Sto}, evEs O ps env st = some (.ok xs, st') → xs.length = ps.length
  | [], _, _, _, _, h => by
    cases h
    rfl
  | p :: ps, env, st, xs, st', h => by
    rcases bind_some (show (evE O p env).bind (fun x => (evEs O ps env).bind fun xs => M.ok (x :: xs)) st = some (.ok xs, st') from h) with ⟨x, s1, _, h2⟩ | ⟨x, _, h2⟩
    · rcases bind_some h2 with ⟨ys, s2, h3, h4⟩ | ⟨x, _, h3⟩
      · cases h4
        exact congrArg Nat.succ (evEs_len h3)
      · cases h3
    · cases h2
theorem base_of {e : PySem.Expr} {m : Str} {env : PySem.Env} (h : baseB e = true) : attributeBase e m env (eval e env) = eval e env := by
  cases e with
  | Call f as ks p =>
    cases f with
    | Name x q =>
      cases as with
      | nil =>
        cases ks with
        | nil =>
          have hx : (x != ("super" : Str)) = true := by
            have := of_decide_eq_false (by simpa [baseB] using h : decide (x = "super") = false)
            simpa using this
          show attributeBase (.Call (.Name x q) [] [] p) m env _ = _
          unfold attributeBase
          simp [hx]
        | cons _ _ => rfl
      | cons _ _ => rfl
    | _ => rfl
  | _ => rfl
theorem list_new {ρ : Lo} {H : Hp} {xs : List D} {vs : List V} {p : Addr} {st : Sto} (r : Rel G ρ H st) (h : RelPs G ρ H xs vs) (hp : H p = none) : RelP G ρ (upd H p (.lst vs)) (.lst xs) (.ref p) :=
  ⟨p, vs, rfl, r.notin hp, upd_same, h.step (step_new hp)⟩
theorem tup_new {ρ : Lo} {H : Hp} {xs : List D} {vs : List V} {p : Addr} {st : Sto} (r : Rel G ρ H st) (h : RelPs G ρ H xs vs) (hp : H p = none) : RelP G ρ (upd H p (.tup vs)) (.tup xs) (.ref p) :=
  ⟨p, vs, rfl, AtT.of upd_same (r.notin hp), h.step (step_new hp)⟩
theorem tup_ok {es : List PySem.Expr} {ps : List PX} {j : Nat} {pos : Pos} {W : Cw} {O : Orc} (h : PA X es (tA G W O ps)) (hl : ps.length ≤ 1000) : PE X (.Tuple es j pos) (tE G W O (.tup ps)) := by
  refine PE_imp (pe_tup h) fun σ H Q q => ?_
  obtain ⟨ρ, st, env, r, st', q1, q2, q3, q4⟩ := q
  refine tG_bind q1 q2 (show (evEs O ps env).bind (fun xs => M.ok (D.tup xs)) st = some (r, st') from q3) q4 fun xs s1 ρ1 H1 vs hm f1 s r1 rp e1 p1 => ?_
  obtain ⟨rfl, rfl⟩ := ok_of f1
  refine ⟨?_, fun p hp => p1 ρ1 _ _ (step_new hp) (r1.new hp) (tup_new r1 rp hp)⟩
  rw [← rp.length, evEs_len hm]
  exact line_le (by omega)
/-- the reading of what makes a new list or dict -/
def PostF (G : Cfg) (ρ : Lo) (H : Hp) (W : Cw) (σ : L2.St) (Q : VK) : R D → Sto → Prop
  | .ok d, st' => ∀ ρ' H1 p ho, Step ρ ρ' H H1 → Rel G ρ' H1 st' → H1 p = none → Cont G ρ' H1 d ho → Q (.ref p) (upd H1 p ho)
  | .ex x, st' => ∀ ρ' H' dd fs', Step ρ ρ' H H' → Rel G ρ' H' st' → ExR G ρ' H' x dd fs' → W.x (.ref (G.cA x.cls)) (some dd) σ H'
def tF (G : Cfg) (W : Cw) (O : Orc) (f : PF) : TE := fun σ H Q => ∃ ρ st env r st', Rel G ρ H st ∧ EnvR G ρ H W env σ ∧ evF O f env st = some (r, st') ∧ PostF G ρ H W σ Q r st'
theorem PostF.step {ρ ρ1 : Lo} {H H1 : Hp} {W : Cw} {σ : L2.St} {Q : VK} {r : R D} {st' : Sto} (h : PostF G ρ H W σ Q r st') (s : Step ρ ρ1 H H1) : PostF G ρ1 H1 W σ Q r st' := by
  cases r with
  | ok d => exact fun ρ' H' p ho s' => h ρ' H' p ho (s.trans s')
  | ex x => exact fun ρ' H' dd fs' s' => h ρ' H' dd fs' (s.trans s')
/-- by value -/
theorem tF_val {W : Cw} {O : Orc} {f : PF} {σ : L2.St} {H : Hp} {Q : VK} (h : tE G W O (.val f) σ H Q) : tF G W O f σ H Q := by
  obtain ⟨ρ, st, env, r, st', q1, q2, q3, q4⟩ := h
  refine ⟨ρ, st, env, r, st', q1, q2, q3, ?_⟩
  cases r with
  | ok d => exact fun ρ' H1 p ho s r1 hp c => q4 ρ' _ _ (s.trans (step_new hp)) (r1.new hp) (c.val r1 hp)
  | ex x => exact q4
/-- a new location -/
theorem Rel.loc {ρ : Lo} {H : Hp} {st : Sto} {p : Addr} {ho : HO} {o : Ob} (r : Rel G ρ H st) (hp : H p = none) (h : ∀ s : Step ρ ⟨ρ.l ++ [p], ρ.z⟩ H (upd H p ho), RelOb G ⟨ρ.l ++ [p], ρ.z⟩ (upd H p ho) p o) :
    Step ρ ⟨ρ.l ++ [p], ρ.z⟩ H (upd H p ho) ∧ Rel G ⟨ρ.l ++ [p], ρ.z⟩ (upd H p ho) (st ++ [o]) := by
  have np : p ∉ ρ := r.notin hp
  have s : Step ρ ⟨ρ.l ++ [p], ρ.z⟩ H (upd H p ho) := ⟨⟨[p], rfl⟩, rfl, fun a h n => by
    rcases List.mem_append.mp h with q | q
    · exact absurd q n
    · rw [List.mem_singleton.mp q]
      exact hp, fun a o e _ => .inl (by rw [upd_ne (ne_of_none e hp)]; exact e)⟩
  refine ⟨s, ⟨by simp [r.len], List.nodup_append.mpr ⟨r.nd, by simp, fun a ha b hb e => ?_⟩, fun a ha => ?_, fun l o' a e1 e2 => ?_⟩⟩
  · rw [List.mem_singleton.mp hb] at e
    exact nol np (e ▸ ha)
  · obtain ⟨n, o', e⟩ := r.zs a ha
    refine ⟨fun q => ?_, o', by rw [upd_ne (ne_of_none e hp)]; exact e⟩
    rcases List.mem_append.mp q with q | q
    · exact n q
    · rw [List.mem_singleton.mp q, hp] at e
      cases e
  · by_cases hl : l < st.length
    · have hl2 : l < ρ.l.length := by rw [r.len]; exact hl
      rw [List.getElem?_append_left hl] at e1
      rw [List.getElem?_append_left hl2] at e2
      refine (r.at_ l o' a e1 e2).stay s (upd_ne fun z => ?_)
      rw [z] at e2
      exact nol np (List.mem_of_getElem? e2)
    · have hl0 : ρ.l.length = st.length := r.len
      rw [List.getElem?_append_right (by omega)] at e1 e2
      have e3 : l - ρ.l.length = l - st.length := by rw [hl0]
      rw [e3] at e2
      cases q : l - st.length with
      | zero =>
        rw [q] at e1 e2
        simp only [List.getElem?_cons_zero, Option.some.injEq] at e1 e2
        subst e1
        subst e2
        exact h s
      | succ n =>
        rw [q] at e1
        simp at e1
theorem loc_at {ρ : Lo} {st : Sto} {H : Hp} {p : Addr} (r : Rel G ρ H st) : (⟨ρ.l ++ [p], ρ.z⟩ : Lo).l[st.length]? = some p := by
  show (ρ.l ++ [p])[st.length]? = some p
  rw [← r.len]
  simp
/-- at a location -/
theorem tF_loc {W : Cw} {O : Orc} {f : PF} {σ : L2.St} {H : Hp} {Q : VK} (h : tE G W O (.loc f) σ H Q) : tF G W O f σ H Q := by
  obtain ⟨ρ, st, env, r, st', q1, q2, q3, q4⟩ := h
  rcases bind_some (show (evF O f env).bind mkLoc st = some (r, st') from q3) with ⟨d, s1, h1, h2⟩ | ⟨x, h1, rfl⟩
  · refine ⟨ρ, st, env, .ok d, s1, q1, q2, h1, fun ρ' H1 p ho s r1 hp c => ?_⟩
    cases d with
    | lst xs =>
      cases h2
      obtain ⟨vs, rfl, c⟩ := c
      obtain ⟨s2, r2⟩ := r1.loc (ho := .lst vs) (o := .lst xs) hp fun s => ⟨vs, upd_same, c.step s⟩
      exact q4 _ _ _ (s.trans s2) r2 ⟨p, loc_at r1, rfl⟩
    | dct xs =>
      cases h2
      obtain ⟨vs, rfl, c⟩ := c
      obtain ⟨s2, r2⟩ := r1.loc (ho := .dK vs) (o := .dk xs) hp fun s => ⟨vs, upd_same, c.step s⟩
      exact q4 _ _ _ (s.trans s2) r2 ⟨p, loc_at r1, rfl⟩
    | _ => cases h2
  · exact ⟨ρ, st, env, .ex x, st', q1, q2, h1, q4⟩
/-- the evaluator's bind ahead of it -/
theorem tF_bind {α β : Type} {ρ : Lo} {H : Hp} {W : Cw} {σ : L2.St} {st st' : Sto} {env : Env} {rel1 : Lo → Hp → α → β → Prop} {m : Env → M α} {f : α → M D} {r : R D} {Q : VK} {K : β → Hp → Prop}
    (hr : Rel G ρ H st) (he : EnvR G ρ H W env σ) (ev : ((m env).bind f) st = some (r, st')) (hp : PostF G ρ H W σ Q r st')
    (k : ∀ x s1 ρ1 H1 v, m env st = some (.ok x, s1) → f x s1 = some (r, st') → Step ρ ρ1 H H1 → Rel G ρ1 H1 s1 → rel1 ρ1 H1 x v → EnvR G ρ1 H1 W env σ → PostF G ρ1 H1 W σ Q r st' → K v H1) : tG G W rel1 m σ H K := by
  rcases bind_some ev with ⟨x, s1, h1, h2⟩ | ⟨x, h1, rfl⟩
  · exact ⟨ρ, st, env, .ok x, s1, hr, he, h1, fun ρ1 H1 v s rel rp => k x s1 ρ1 H1 v h1 h2 s rel rp (he.step s) (hp.step s)⟩
  · exact ⟨ρ, st, env, .ex x, st', hr, he, h1, hp⟩
theorem lstF_ok {es : List PySem.Expr} {ps : List PX} {pos : Pos} {W : Cw} {O : Orc} (h : PA X es (tA G W O ps)) (hl : ps.length ≤ 1000) : PE X (.List es pos) (tF G W O (.lst ps)) := by
  refine PE_imp (pe_lst h) fun σ H Q q => ?_
  obtain ⟨ρ, st, env, r, st', q1, q2, q3, q4⟩ := q
  refine tF_bind q1 q2 (show (evEs O ps env).bind (fun xs => M.ok (D.lst xs)) st = some (r, st') from q3) q4 fun xs s1 ρ1 H1 vs hm f1 s r1 rp e1 p1 => ?_
  obtain ⟨rfl, rfl⟩ := ok_of f1
  refine ⟨?_, fun p hp => p1 ρ1 H1 p _ Step.refl r1 hp ⟨vs, rfl, rp⟩⟩
  rw [← rp.length, evEs_len hm]
  exact line_le (by omega)
def relB' {α : Type} : Lo → Hp → α → α → Prop := fun _ _ a b => a = b
def evPart (O : Orc) (lo : PX) (env : Env) : M (Option Int) := if isHole lo = true then M.ok none else (evE O lo env).bind asInt
theorem PO_imp {l : Option PySem.Expr} {t t' : TO} (h : PO X l t) (hi : ∀ σ H Q, t' σ H Q → t σ H Q) : PO X l t' := ⟨fun pins s σ H Q I q => h.run pins s σ H Q I (hi σ H Q q)⟩
theorem po_part {O : Orc} {W : Cw} {lo : PX} {l : Option PySem.Expr} (h : (match l with
      | none => isHole lo
      | some e => !isHole lo && okE S lo e) = true) (he : ∀ e, okE S lo e = true → PE X e (tE G W O lo)) : PO X l (tG G W relB' (evPart O lo)) := by
  cases l with
  | none =>
    refine PO_imp po_none fun σ H Q q => ?_
    obtain ⟨ρ, st, env, r, st', q1, q2, q3, q4⟩ := q
    unfold evPart at q3
    rw [if_pos h] at q3
    exact tG_ret (a := (none : Option Int)) (b := (none : Option Int)) q3 q4 q1 rfl
  | some e =>
    obtain ⟨h1, h2⟩ := band h
    refine PO_imp (po_some (he e h2)) fun σ H Q q => ?_
    obtain ⟨ρ, st, env, r, st', q1, q2, q3, q4⟩ := q
    unfold evPart at q3
    rw [if_neg (by simpa using h1)] at q3
    refine tG_bind q1 q2 q3 q4 fun d s1 ρ1 H1 v hm f1 s r1 rp e1 p1 => ?_
    cases d with
    | int i =>
      cases rp
      exact ⟨i, rfl, tG_ret (a := some i) (b := some i) f1 p1 r1 rfl⟩
    | _ => cases f1
theorem postC_of {ρ : Lo} {H : Hp} {W : Cw} {σ : L2.St} {Q : VK} {r : R D} {st' : Sto} (h : PostG G (RelP G) ρ H W σ Q r st') : PostC G ρ H Q (WE W.x σ) r st' := by
  cases r with
  | ok d => exact h
  | ex x => exact h
theorem tA_nil {O : Orc} {ps : List PX} {es : List PySem.Expr} {W : Cw} (e : es = []) (h : okEs S ps es = true) {σ : L2.St} {H : Hp} {Q : List V → Hp → Prop} (q : tA G W O ps σ H Q) : Q [] H := by
  subst e
  cases ps with
  | cons _ _ => cases h
  | nil =>
    obtain ⟨ρ, st, env, r, st', q1, q2, q3, q4⟩ := q
    exact tG_ret (a := ([] : List D)) (b := ([] : List V)) q3 q4 q1 rfl
theorem okEs_len : ∀ {ps : List PX} {es : List PySem.Expr}, okEs S ps es = true → ps.length = es.length
  | [], [], _ => rfl
  | [], _ :: _, h => by cases h
  | _ :: _, [], h => by cases h
  | _ :: _, _ :: _, h => congrArg Nat.succ (okEs_len (band h).2)
theorem chn_bl {O : Orc} {o p : COp} {a b c : PX} {env : Env} {st st' : Sto} {d : D} (h : evE O (.chn o p a b c) env st = some (.ok d, st')) : ∃ t, d = .bl t := by
  rcases bind_some (show (evE O a env).bind _ st = some (.ok d, st') from h) with ⟨x, s1, _, h1⟩ | ⟨x, _, e⟩
  · rcases bind_some h1 with ⟨y, s2, _, h2⟩ | ⟨y, _, e⟩
    · rcases bind_some h2 with ⟨t, s3, _, h3⟩ | ⟨y, _, e⟩
      · cases t with
        | true =>
          rcases bind_some (show ((evE O c env).bind fun z => onSt fun st => (cmpD p st y z).map D.bl) s3 = some (.ok d, st') from h3) with ⟨z, s4, _, h4⟩ | ⟨y, _, e⟩
          · obtain ⟨w, w1, w2, _⟩ := onSt_of h4
            cases w2
            obtain ⟨t, _, rfl⟩ := Option.map_eq_some_iff.mp w1
            exact ⟨t, rfl⟩
          · cases e
        | false =>
          cases h3
          exact ⟨_, rfl⟩
      · cases e
    · cases e
  · cases e
/-- what a field of a text is -/
def FmtOk (x : V) (H1 : Hp) (Q : Str → Hp → Prop) : Prop := (∃ y : Str, x = .str y ∧ y.length ≤ sizeLine ∧ Q y H1) ∨ ∃ i : Int, x = .int i ∧ i.natAbs.log2 < 1920 ∧ Q (toString i) H1
theorem fmt_ok {ρ : Lo} {H : Hp} {x : D} {v : V} {y : Str} {Q : Str → Hp → Prop} (h : RelP G ρ H x v) (e : fmtD x = some y) (q : Q y H) : FmtOk v H Q := by
  cases x with
  | str z =>
    cases h
    have e2 : (if z.length ≤ 16777216 then some z else none) = some y := e
    split at e2
    · rename_i hz
      cases e2
      exact .inl ⟨_, rfl, line_le hz, q⟩
    · cases e2
  | int i =>
    cases h
    have e2 : (if i.natAbs.log2 < 1920 then some (toString i : Str) else none) = some y := e
    split at e2
    · rename_i hz
      cases e2
      exact .inr ⟨i, rfl, hz, q⟩
    · cases e2
  | _ => cases e
theorem sP1 {p : PX} {W : Cw} {e : PySem.Expr} (sE : ∀ {e : PySem.Expr}, Gd G P k S X W ex → okE S p e = true → PE X e (tE G W (orcX P (callF P k) ex) p) ∧ PT X e (tT G W (orcX P (callF P k) ex) p)) (g : Gd G P k S X W ex) (h : (match e with
      | .FormattedValue x c none _ => decide (c = -1) && okE S p x
      | .Constant (.str s) j q => okE S p (.Constant (.str s) j q)
      | _ => false) = true) : ∃ t, PE X e t ∧ ∀ {σ H} {Q : Str → Hp → Prop}, tE G W (orcX P (callF P k) ex) p σ H (fun x H1 => FmtOk x H1 Q) → t σ H fun x H1 => ∃ y, x = .str y ∧ Q y H1 := by
  cases e with
  | FormattedValue x c o q =>
    cases o with
    | some _ => cases h
    | none =>
      obtain ⟨h1, h2⟩ := band h
      have e := of_decide_eq_true h1
      subst e
      refine ⟨_, pe_fmt (sE g h2).1, fun {σ H Q} z => ?_⟩
      obtain ⟨ρ, st, env, r, st', q1, q2, q3, q4⟩ := z
      refine ⟨ρ, st, env, r, st', q1, q2, q3, ?_⟩
      cases r with
      | ok d =>
        intro ρ' H' v s r1 rp
        rcases q4 ρ' H' v s r1 rp with ⟨y, e, hz, z⟩ | ⟨i, e, hz, z⟩
        · exact .inl ⟨y, e, hz, y, rfl, z⟩
        · exact .inr ⟨i, e, hz, _, rfl, z⟩
      | ex x => exact q4
  | Constant c j q =>
    cases c with
    | str s =>
      have hp : p = .hole ∨ ∃ z, p = .cst (.str z) := by
        cases p with
        | cst d => cases d <;> first | exact .inr ⟨_, rfl⟩ | cases h
        | hole => exact .inl rfl
        | val f => cases f <;> cases h
        | loc f => cases f <;> cases h
        | _ => cases h
      rcases hp with rfl | ⟨z, rfl⟩
      · refine ⟨_, pe_str (x := s), fun {σ H Q} z => ?_⟩
        obtain ⟨ρ, st, env, r, st', q1, q2, q3, q4⟩ := z
        cases q3
      have e := of_decide_eq_true (show decide (z = s) = true from h)
      subst e
      refine ⟨_, pe_str, fun {σ H Q} z => ?_⟩
      obtain ⟨ρ, st, env, r, st', q1, q2, q3, q4⟩ := z
      have := tG_ret (rel := RelP G) (b := V.str z) q3 q4 q1 rfl
      rcases this with ⟨y, e, _, q⟩ | ⟨i, e, _⟩
      · exact ⟨y, e, q⟩
      · cases e
    | _ => cases h
  | _ => cases h
end
section
variable {G : Cfg} {P : Prg} {k : Nat}
theorem noKw_of {ks : List Keyword} (h : noKw ks = true) : ks = [] := by
  cases ks with
  | nil => rfl
  | cons _ _ => cases h
theorem mut_loc {ρ : Lo} {H : Hp} {st : Sto} {l : Nat} {o' : Ob} {ho : HO} {a : Addr} (r : Rel G ρ H st) (hl : l < st.length) (ha : ρ.l[l]? = some a) (h' : ∀ s : Step ρ ρ H (upd H a ho), RelOb G ρ (upd H a ho) a o') : Step ρ ρ H (upd H a ho) ∧ Rel G ρ (upd H a ho) (st.set l o') := by
  have st1 : Step ρ ρ H (upd H a ho) := ⟨⟨[], by simp⟩, rfl, fun b h n => absurd h n, fun b u e n => by
    have hb : b ≠ a := fun z => n (z ▸ List.mem_of_getElem? ha)
    refine .inl ?_
    rw [upd_ne hb]
    exact e⟩
  refine ⟨st1, ⟨by rw [List.length_set]; exact r.len, r.nd, fun b hb => ?_, fun j o b e1 e2 => ?_⟩⟩
  · obtain ⟨n, o, e⟩ := r.zs b hb
    exact ⟨n, (st1.keep b o e n).there⟩
  by_cases hj : l = j
  · subst hj
    rw [List.getElem?_set_self hl] at e1
    cases e1
    rw [ha] at e2
    cases e2
    exact h' st1
  · rw [List.getElem?_set_ne hj] at e1
    have hb : b ≠ a := fun z => by
      subst z
      obtain ⟨p1, q1⟩ := List.getElem?_eq_some_iff.mp ha
      obtain ⟨p2, q2⟩ := List.getElem?_eq_some_iff.mp e2
      exact hj ((List.getElem_inj r.nd).mp (q1.trans q2.symm))
    exact (r.at_ j o b e1 e2).stay st1 (upd_ne hb)
theorem look_lt {st : Sto} {l : Nat} {o : Ob} (e : st[l]? = some o) : l < st.length := (List.getElem?_eq_some_iff.mp e).1
/-- a store into a list at a location -/
theorem lst_set {ρ : Lo} {H : Hp} {st : Sto} {l : Nat} {xs ys : List D} {vs us : List V} {a : Addr} (r : Rel G ρ H st) (e : st[l]? = some (.lst xs)) (ha : ρ.l[l]? = some a) (h : RelPs G ρ H ys us) :
    Step ρ ρ H (upd H a (.lst us)) ∧ Rel G ρ (upd H a (.lst us)) (st.set l (.lst ys)) :=
  mut_loc r (look_lt e) ha fun s => ⟨us, upd_same, h.step s⟩
theorem lst_at {ρ : Lo} {H : Hp} {st : Sto} {l : Nat} {xs : List D} {a : Addr} (r : Rel G ρ H st) (e : st[l]? = some (.lst xs)) (ha : ρ.l[l]? = some a) : ∃ vs, H a = some (.lst vs) ∧ RelPs G ρ H xs vs := r.at_ l _ a e ha
/-- the methods of one argument: the type, the method's rule -/
def bm1T : Bm1 → String
  | .append => "list"
  | .lpop => "list"
  | .dpop => "dict"
  | _ => "str"
/-- a method's rule by trees -/
def rM1 (G : Cfg) (m : Bm1) : V → List V → Hp → VK → Prop := fun v vs H Q => ∃ ρ st x y u r st', vs = [u] ∧ Rel G ρ H st ∧ RelP G ρ H x v ∧ RelP G ρ H y u ∧ bm1D m x y st = some (r, st') ∧ ∀ ρ' H' w, Step ρ ρ' H H' → Rel G ρ' H' st' → RelP G ρ' H' r w → Q w H'
theorem mt_append' {X : Cx} : MtR X "list.append" (rM1 G .append) := by
  intro pins s σ H v vs vv us Q I rv rs h
  obtain ⟨ρ, st, x, y, u, rr, st', rfl, r, hx, hy, e, k⟩ := h
  cases x with
  | ref l =>
    obtain ⟨a, h1, rfl⟩ := hx
    cases q : st[l]? with
    | none =>
      have e2 : (match st[l]? with
        | some (.lst ys) => if ys.length < 16777216 then some (D.non, st.set l (.lst (ys ++ [y]))) else none
        | _ => none) = some (rr, st') := e
      rw [q] at e2
      cases e2
    | some o =>
      have e2 : (match st[l]? with
        | some (.lst ys) => if ys.length < 16777216 then some (D.non, st.set l (.lst (ys ++ [y]))) else none
        | _ => none) = some (rr, st') := e
      rw [q] at e2
      cases o with
      | lst ys =>
        have e3 : (if ys.length < 16777216 then some (D.non, st.set l (.lst (ys ++ [y]))) else none) = some (rr, st') := e2
        split at e3
        · rename_i hz
          cases e3
          obtain ⟨ws, h3, h4⟩ := lst_at r q h1
          obtain ⟨s1, r1⟩ := lst_set (vs := ws) r q h1 (h4.append (show RelPs G ρ H [y] [u] from ⟨u, [], rfl, hy, rfl⟩))
          exact mt_append pins s σ H _ _ vv us Q I rv rs ⟨a, ws, u, rfl, rfl, h3, line_lt (by rw [← h4.length]; exact hz), k ρ _ _ s1 r1 rfl⟩
        · cases e3
      | _ => cases e2
  | _ => cases e
theorem mt_split' {X : Cx} : MtR X "str.split" (rM1 G .split) := by
  intro pins s σ H v vs vv us Q I rv rs h
  obtain ⟨ρ, st, x, y, u, rr, st', rfl, r, hx, hy, e, k⟩ := h
  cases x with
  | str a =>
    cases y with
    | str b =>
      cases hx
      cases hy
      have e2 : (if (b.length == 0) = false ∧ a.length + 2 ≤ 16777216 then some (D.lst ((Txt.split a b).map D.str), st) else none) = some (rr, st') := e
      split at e2
      · rename_i hz
        cases e2
        exact mt_split pins s σ H _ _ vv us Q I rv rs ⟨a, b, rfl, rfl, hz.1, line_le hz.2, fun p hp => k ρ _ _ (step_new hp) (r.new hp) (list_new r (relPs_strs _) hp)⟩
      · cases e2
    | _ => cases e
  | _ => cases e
theorem mt_join' {X : Cx} (hK : X.K = G.K) : MtR X "str.join" (rM1 G .join) := by
  intro pins s σ H v vs vv us Q I rv rs h
  obtain ⟨ρ, st, x, y, u, rr, st', rfl, r, hx, hy, e, k⟩ := h
  cases x with
  | str a =>
    cases hx
    have e2 : (match (seqOf st y).bind strsOf with
      | some ys => if (ys.map Str.length).sum + ys.length * a.length ≤ 16777216 then some (D.str (Txt.join a ys), st) else none
      | none => none) = some (rr, st') := e
    cases q : (seqOf st y).bind strsOf with
    | none =>
      rw [q] at e2
      cases e2
    | some ys =>
      rw [q] at e2
      have e3 : (if (ys.map Str.length).sum + ys.length * a.length ≤ 16777216 then some (D.str (Txt.join a ys), st) else none) = some (rr, st') := e2
      split at e3
      · rename_i hz
        cases e3
        obtain ⟨xs, q1, q2⟩ := Option.bind_eq_some_iff.mp q
        obtain ⟨b, ws, rfl, h1, h2⟩ := r.seq hy q1
        have hb := strs_ok h2 q2
        subst hb
        rw [← hK] at h1
        exact mt_join pins s σ H _ _ vv us Q I rv rs ⟨a, b, ys, rfl, rfl, h1, hz, k ρ H _ Step.refl r rfl⟩
      · cases e3
  | _ => cases e
theorem mt_str1 {X : Cx} {m : Bm1} {id : String} {f : Str → Str → D} {fv : Str → Str → V} (hf : ∀ a b (st : Sto), bm1D m (.str a) (.str b) st = some (f a b, st)) (hn : ∀ x y st, (∀ a b, x = .str a → y ≠ .str b) → bm1D m x y st = none) (hr : ∀ a b ρ H, RelP G ρ H (f a b) (fv a b))
    (rule : MtR X id (fun x xs H Q => ∃ a b, x = .str a ∧ xs = [.str b] ∧ Q (fv a b) H)) : MtR X id (rM1 G m) := by
  intro pins s σ H v vs vv us Q I rv rs h
  obtain ⟨ρ, st, x, y, u, rr, st', rfl, r, hx, hy, e, k⟩ := h
  by_cases hs : ∀ a b, x = .str a → y ≠ .str b
  · rw [hn x y st hs] at e
    cases e
  · simp only [Classical.not_forall, not_imp, Classical.not_not] at hs
    obtain ⟨a, b, rfl, rfl⟩ := hs
    cases hx
    cases hy
    rw [hf] at e
    cases e
    exact rule pins s σ H _ _ vv us Q I rv rs ⟨a, b, rfl, rfl, k ρ H _ Step.refl r (hr a b ρ H)⟩
/-! tests of and, or, not, a if c else b -/
theorem test_bind {α : Type} {O : Orc} {p : PX} {env : Env} {f : Bool → M α} {st : Sto} : ((evE O p env).bind fun x => (onSt fun st => truth st x).bind f) st = (testM O p env).bind f st := by
  unfold testM
  rw [M.bind_assoc]
theorem if_M {α : Type} {c : Bool} {a b : M α} : (match c with
  | true => a
  | false => b) = if c = true then a else b := by
  cases c <;> rfl
theorem bind_congr {α β : Type} {m : M α} {f g : α → M β} {st : Sto} (h : ∀ a s, m st = some (.ok a, s) → f a s = g a s) : m.bind f st = m.bind g st := by
  unfold M.bind
  cases e : m st with
  | none => rfl
  | some q =>
    obtain ⟨r, s⟩ := q
    cases r with
    | ok a => exact h a s e
    | ex x => rfl
theorem ife_val {O : Orc} {c a b : PX} {env : Env} {st : Sto} : (testM O c env).bind (fun c => if c = true then evE O a env else evE O b env) st = evE O (.ife c a b) env st := by
  rw [← test_bind]
  refine bind_congr fun x s _ => bind_congr fun t s' _ => ?_
  cases t <;> rfl
theorem ife_test {O : Orc} {c a b : PX} {env : Env} {st : Sto} : (testM O c env).bind (fun c => if c = true then testM O a env else testM O b env) st = testM O (.ife c a b) env st := by
  have e : testM O (.ife c a b) env st = (testM O c env).bind (fun c => (if c = true then evE O a env else evE O b env).bind fun x => onSt fun st => truth st x) st := by
    show ((evE O (.ife c a b) env).bind _) st = _
    rw [← M.bind_assoc]
    refine congrFun (congrArg (fun m => M.bind m _) ?_) st
    funext s
    exact ife_val.symm
  rw [e]
  refine bind_congr fun t s _ => ?_
  cases t <;> rfl
theorem not_test {O : Orc} {a : PX} {env : Env} {st : Sto} : (testM O a env).bind (fun c => M.ok (!c)) st = testM O (.not_ a) env st := by
  rw [← test_bind]
  show _ = ((evE O (.not_ a) env).bind fun x => onSt fun st => truth st x) st
  have e : evE O (.not_ a) env = (evE O a env).bind fun x => onSt fun st => (truth st x).map fun b => D.bl (!b) := rfl
  rw [e, M.bind_assoc]
  refine bind_congr fun x s _ => ?_
  unfold M.bind onSt M.ok
  dsimp only
  cases truth s x <;> rfl
theorem and_test {O : Orc} {a b : PX} {env : Env} {st : Sto} : (testM O a env).bind (fun c => if c = true then testM O b env else M.ok false) st = testM O (.and_ a b) env st := by
  rw [← test_bind]
  show _ = ((evE O (.and_ a b) env).bind fun x => onSt fun st => truth st x) st
  have e : evE O (.and_ a b) env = (evE O a env).bind fun x => (onSt fun st => truth st x).bind fun t => match t with
    | true => evE O b env
    | false => M.ok x := rfl
  rw [e, M.bind_assoc]
  refine bind_congr fun x s _ => ?_
  rw [M.bind_assoc]
  refine bind_congr fun t s' h => ?_
  obtain ⟨t', h1, h2, rfl⟩ := onSt_of h
  cases h2
  cases t with
  | true => rfl
  | false =>
    show some (R.ok false, _) = M.bind (M.ok x) _ _
    unfold M.bind onSt M.ok
    simp only [h1]
theorem or_test {O : Orc} {a b : PX} {env : Env} {st : Sto} : (testM O a env).bind (fun c => if c = true then M.ok true else testM O b env) st = testM O (.or_ a b) env st := by
  rw [← test_bind]
  show _ = ((evE O (.or_ a b) env).bind fun x => onSt fun st => truth st x) st
  have e : evE O (.or_ a b) env = (evE O a env).bind fun x => (onSt fun st => truth st x).bind fun t => match t with
    | true => M.ok x
    | false => evE O b env := rfl
  rw [e, M.bind_assoc]
  refine bind_congr fun x s _ => ?_
  rw [M.bind_assoc]
  refine bind_congr fun t s' h => ?_
  obtain ⟨t', h1, h2, rfl⟩ := onSt_of h
  cases h2
  cases t with
  | false => rfl
  | true =>
    show some (R.ok true, _) = M.bind (M.ok x) _ _
    unfold M.bind onSt M.ok
    simp only [h1]
end
end Mp
end
section
set_option Elab.async false
set_option linter.all false
set_option maxRecDepth 100000
set_option maxHeartbeats 2000000
/-! Mp: calls of the text's own defs, whatever they raise. -/
namespace Mp
open PySem PySem.Spec PyProof.Rows L2

section
variable {X : Cx} {Z : CXT} {k : Nat} {f C : Addr} {fd : FuncData} {ps : List Str} {sp : Sp} {dvs : List V} {ds : List Value} {E : L2.St → XK} {x m : Str} {p pos apos : Pos} {o : PySem.Expr} {es : List PySem.Expr} {t : TA} {ta : TE}
theorem plain_backTo {env : PySem.Env} : ∀ {es : List PySem.Expr}, plainAllB es = true → (backTo pos (starEach es env)).all (fun z => !z.1) = true ∧ (backTo pos (starEach es env)).any (·.1) = false
  | [], _ => ⟨rfl, rfl⟩
  | e :: es, h => by
    obtain ⟨h1, h2⟩ := band h
    obtain ⟨i1, i2⟩ := plain_backTo (env := env) h2
    rw [plain_star h1 es env]
    exact ⟨by simpa [backTo] using i1, by simpa [backTo] using i2⟩
theorem call_args {g : Value} {first : List Value} {pins : List (Addr × Obj)} {s : Shared} {σ : L2.St} {H : Hp} {Q : List V → Hp → Prop} {R : Value → Shared → Prop} (I : Inv X pins σ H s) (hk : PySem.W.keepIn X.K g = true) (ha : PA X es t) (hp : plainAllB es = true) (hn : es = [] → ∀ H Q, t σ H Q → Q [] H) (h : t σ H Q)
    (fin : ∀ us s1 vs H1, Inv X pins σ H1 s1 → Vals vs us → Q vs H1 → wpAny (model X.prog X.w) X.A (call g (first ++ us)) R X.xe s1) :
    wpAny (model X.prog X.w) X.A (callWith pos g first (backTo pos (starEach es X.env)) []) R X.xe s := by
  cases es with
  | nil => exact PySem.W.callWith_K0 I.kIn hk (fin [] s [] H I .nil (hn rfl H Q h))
  | cons e es =>
    obtain ⟨h1, h2⟩ := band hp
    exact PySem.W.callWith_K (h₀ := X.base) (first := first) I.ok.mod.kin hk (thn (ha.run pos pins s σ H _ I h) fun us s1 ⟨vs, H1, I1, r, q⟩ => ⟨I1.kIn, fin us s1 vs H1 I1 r q⟩) (plain_star h1 es X.env) (plain_backTo h2).2
/-- f(..) -/
theorem pe_fn (F : FnOk X.prog X.w X.K X.mg X.base Z k f fd ps sp) (hr : Room k X.A) (hg : Gl X x) (hm : X.mg x = some (.ref f)) (hk : PySem.W.keepIn X.K (.ref f) = true) (hb : Binds X.K fd ps ds) (hd : Vals dvs ds) (hx : ∀ σ, PassesAt Z X σ (E σ))
    (ha : PA X es t) (hp : plainAllB es = true) (hn : es = [] → ∀ σ H Q, t σ H Q → Q [] H) (hdb : (x == ("__debug__" : Str)) = false) : PE X (.Call (.Name x p) es [] pos) (tCallSD sp dvs E t) := by
  refine ⟨fun pins s σ H Q I h => wpAny_Call_Name_kw (ld_glob I hg hm ?_ hdb)⟩
  exact call_args (first := []) I hk ha hp (fun e H Q => hn e σ H Q) h fun us s1 vs H1 I1 r q => run_fnSD F hr hb hd (hx σ) I1 r q
/-- a call of the def that a slot holds -/
theorem pe_slot {ι : Type} {S : ι → Prop} {fa : ι → Addr} {spf : ι → Sp} {i : Nat} (F : ∀ f, S f → ∃ fd ps, FnOk X.prog X.w X.K X.mg X.base Z k (fa f) fd ps (spf f) ∧ PySem.W.keepIn X.K (.ref (fa f)) = true ∧ Binds X.K fd ps []) (hr : Room k X.A) (hN : X.N[i]? = some x) (hv : Vis X.env.scope x)
    (hx : ∀ σ, PassesAt Z X σ (E σ)) (ha : PA X es t) (hp : plainAllB es = true) (hn : es = [] → ∀ σ H Q, t σ H Q → Q [] H) (hdb : (x == ("__debug__" : Str)) = false) (hcd : (x == ("__classdict__" : Str)) = false) :
    PE X (.Call (.Name x p) es [] pos) (fun σ H Q => ∃ f, σ[i]? = some (some (.ref (fa f))) ∧ S f ∧ t σ H fun vs H1 => spf f vs H1 Q (E σ)) := by
  refine ⟨fun pins s σ H Q I h => ?_⟩
  obtain ⟨f, h1, h2, h3⟩ := h
  obtain ⟨fd, ps, F1, hk, hb⟩ := F f h2
  refine wpAny_Call_Name_kw (thn ((pe_var (pos := p) (i := i) hN hv hdb hcd).run pins s σ H (fun v H1 => v = .ref (fa f) ∧ H1 = H) I ⟨.ref (fa f), h1, rfl, rfl⟩) fun u s1 ⟨v, H1, I1, r1, ev, eH⟩ => ?_)
  subst ev
  rw [eH] at I1
  obtain rfl : u = Value.ref (fa f) := r1
  exact call_args (first := []) I1 hk ha hp (fun e H Q => hn e σ H Q) h3 fun us s1 vs H1 I1 r q => run_fnSD (ds := []) (dvs := []) F1 hr hb .nil (hx σ) I1 r (by rw [List.append_nil]; exact q)
theorem meth_form {env : PySem.Env} (hb : attributeBase o m env (eval o env) = eval o env) (hl : (apos.endLine == pos.line) = true) (hf : methodCallForm es.length (backTo pos (starEach es env)) [] = true) : eval (.Call (.Attribute o m apos) es [] pos) env = (do
    let ov ← eval o env
    standAt apos.atName
    let (f, first) ← holding [ov] (getMethod ov m (do return (← importBound o env).getD true))
    callWith pos f first (backTo pos (starEach es env)) (backToKw pos (keywordEach [] env))) := by
  show (do
    let ov ← attributeBase o m env (eval o env)
    standAt apos.atName
    methodCall o m apos pos env ov (es.length + 0) (backTo pos (starEach es env)) (backToKw pos (keywordEach [] env))) = _
  rw [hb]
  refine congrArg (fun z => eval o env >>= z) (funext fun ov => congrArg (fun z => standAt apos.atName >>= z) (funext fun _ => ?_))
  show (do
    let (f, first) ← holding [ov] (calleeOf (methodCallForm es.length (backTo pos (starEach es env)) []) o env ov m)
    let callPos ← methodCallPos (methodCallForm es.length (backTo pos (starEach es env)) []) o env apos pos
    callWith callPos f first (backTo pos (starEach es env)) []) = _
  rw [hf]
  refine congrArg (fun z => holding [ov] (getMethod ov m (do return (← importBound o env).getD true)) >>= z) (funext fun q => ?_)
  show (methodCallPos true o env apos pos >>= fun callPos => callWith callPos q.1 q.2 (backTo pos (starEach es env)) []) = _
  have e : methodCallPos true o env apos pos = pure pos := by
    unfold methodCallPos
    rw [hl]
    rfl
  rw [e]
  rfl
theorem few_of {env : PySem.Env} (hp : plainAllB es = true) (hn : es.length < 20) : methodCallForm es.length (backTo pos (starEach es env)) [] = true := by
  unfold methodCallForm
  rw [(plain_backTo hp).1]
  show (true && true && decide (es.length + 0 < 30)) = true
  simp only [Bool.and_true, Bool.true_and, decide_eq_true_eq]
  omega
/-- o.m(..), the class told ahead -/
theorem pe_mth (he : PE X o ta) (c : Cls X.K C) (hm : Meth X.K C m f) (F : FnOk X.prog X.w X.K X.mg X.base Z k f fd ps sp) (hr : Room k X.A) (hb : Binds X.K fd ps ds) (hd : Vals dvs ds) (hx : ∀ σ, PassesAt Z X σ (E σ)) (ha : PA X es t) (hp : plainAllB es = true)
    (hn : es = [] → ∀ σ H Q, t σ H Q → Q [] H) (hba : attributeBase o m X.env (eval o X.env) = eval o X.env) (hl : (apos.endLine == pos.line) = true) (hz : es.length < 20) :
    PE X (.Call (.Attribute o m apos) es [] pos) (fun σ H Q => ta σ H fun v H1 => ∃ a dx fs, v = .ref a ∧ H1 a = some (.ins C dx fs) ∧ fs.lookup m = none ∧ t σ H1 fun vs H2 => sp (.ref a :: (vs ++ dvs)) H2 Q (E σ)) := by
  refine ⟨fun pins s σ H Q I h => ?_⟩
  refine PySem.W.methodCall_KW (thn (he.run pins s σ H _ I h) fun u s1 ⟨v, H1, I1, rx, a, dx, fs, ex, ea, l, q⟩ => ?_) (meth_form hba hl (few_of hp hz))
  subst ex
  obtain rfl : u = Value.ref a := rx
  refine getmeth_ok I1 ea c hm l ?_
  exact call_args (first := [.ref a]) I1 hm.kp ha hp (fun e H Q => hn e σ H Q) q fun us s2 vs H2 I2 r q2 => run_fnSD (us := .ref a :: us) (vs := .ref a :: vs) F hr hb hd (hx σ) I2 (.cons rfl r) q2
/-- C(..) -/
theorem pe_mk (M1 : Mk X.K C f) (F : FnOk X.prog X.w X.K X.mg X.base Z k f fd ps sp) (hr : Room (k + 1) X.A) (hg : Gl X x) (hm : X.mg x = some (.ref C)) (hb : Binds X.K fd ps ds) (hd : Vals dvs ds) (hx : ∀ σ, PassesAt Z X σ (E σ))
    (ha : PA X es t) (hp : plainAllB es = true) (hn : es = [] → ∀ σ H Q, t σ H Q → Q [] H) (hdb : (x == ("__debug__" : Str)) = false) :
    PE X (.Call (.Name x p) es [] pos) (fun σ H Q => t σ H fun vs H1 => ∀ b dx, H1 b = none → H1 dx = none → dx ≠ b → sp (.ref b :: (vs ++ dvs)) (upd (upd H1 dx (.own b)) b (.ins C dx [])) (fun v H2 => v = .non ∧ Q (.ref b) H2) (E σ)) := by
  refine ⟨fun pins s σ H Q I h => wpAny_Call_Name_kw (ld_glob I hg hm ?_ hdb)⟩
  refine call_args (first := []) I M1.kp ha hp (fun e H Q => hn e σ H Q) h fun us s1 vs H1 I1 r q => ?_
  have hq := q (s1.heap.objs.size + 1) s1.heap.objs.size (I1.hok.fresh (Nat.le_succ _)) (I1.hok.fresh (Nat.le_refl _)) (Nat.ne_of_lt (Nat.lt_succ_self _))
  have I2 := Inv.made (C := C) I1
  have r2 : Vals (V.ref (s1.heap.objs.size + 1) :: (vs ++ dvs)) (Value.ref (s1.heap.objs.size + 1) :: (us ++ ds)) := .cons rfl (r.append hd)
  have hl : (Value.ref (s1.heap.objs.size + 1) :: us ++ ds).length = ps.length := (r2.length.symm.trans (F.len _ _ _ _ hq))
  refine wpAny_call (make_map (f := f) I1.kIn M1.makes M1.init (beq_iff_eq.mp M1.fn) (codeAny_mono (F.run _ X.stack _ _ ⟨Value.ref (s1.heap.objs.size + 1) :: us, []⟩ (Value.ref (s1.heap.objs.size + 1) :: (us ++ ds)) _ _ (E σ) (hr.make C us []) (I2.env0.make C us [])
    (hb _ (Value.ref (s1.heap.objs.size + 1) :: us) I2.kIn hl) r2 hq) fun rr s' hq' => ?_))
  cases rr with
  | error e => exact hx σ pins _ _ e s' I2 hq'
  | ok fl =>
    cases fl with
    | ret u =>
      obtain ⟨v, H', I3, rv, ev, q3⟩ := I2.after hq'
      subst ev
      exact ⟨rv, ⟨V.ref (s1.heap.objs.size + 1), H', I3, rfl, q3⟩⟩
    | next => exact hq'.elim
    | brk => exact hq'.elim
    | cont => exact hq'.elim
end
end Mp
end
section
set_option Elab.async false
set_option linter.all false
set_option maxRecDepth 100000
set_option maxHeartbeats 2000000
/-! Mp: isinstance; what is walked. -/
namespace Mp
open PySem PySem.Spec PyProof.Rows L2
section
variable {G : Cfg} {ρ : Lo} {H : Hp} {st : Sto}
theorem lstOf_at {st : Sto} {l : Nat} {ys : List D} (q : st[l]? = some (.lst ys)) : lstOf st (.ref l) = some ys := by
  have e : lstOf st (.ref l) = (match st[l]? with
    | some (.lst xs) => some xs
    | _ => none) := rfl
  rw [e, q]
theorem sub_kit {K : PySem.W.Frag} (a b : Ty) : PySem.W.kitOne K (.type a.ty) (.type b.ty) = some (a.sub b) := by
  cases a <;> cases b <;> exact kit_ty (by decide +kernel)
theorem any_kit {K : PySem.W.Frag} (a : Ty) : ∀ ts : List Ty, PySem.W.kitAny K (.type a.ty) (ts.map fun t => Value.type t.ty) = some (ts.any fun c => a.sub c)
  | [] => kitAny_nil
  | t :: ts => by
    refine kitAny_cons (sub_kit a t) (fun h => ?_) fun h => ?_
    · rw [any_kit a ts, List.any_cons, h]
      rfl
    · rw [List.any_cons, h]
      rfl
theorem ty_lst {a : Addr} {vs : List V} (h : SqL G.K H a vs) : TyX G.K H (.ref a) (.type "list") := by
  rcases h with (h | ⟨o, h⟩) | ⟨o, its, n, h1, h2, _⟩
  · exact .base (.lst h)
  · exact .base (.frz h)
  · exact .kList h1 h2
theorem ty_tup {a : Addr} {vs : List V} (h : SqT G.K H a vs) : TyX G.K H (.ref a) (.type "tuple") := by
  rcases h with (h | ⟨o, h⟩) | ⟨o, its, n, h1, h2, _⟩
  · exact .base (.tup h)
  · exact .fTuple h
  · exact .kTuple h1 h2
theorem ty_ok (r : Rel G ρ H st) {d : D} {v : V} {t : Ty} (h : RelP G ρ H d v) (e : tyOf st d = some t) : TyX G.K H v (.type t.ty) := by
  cases d with
  | non =>
    cases h
    cases e
    exact .base .non
  | bl b =>
    cases h
    cases e
    exact .base (.bl b)
  | int b =>
    cases h
    cases e
    exact .base (.int b)
  | str b =>
    cases h
    cases e
    exact .base (.str b)
  | tup xs =>
    obtain ⟨a, vs, rfl, h1, _⟩ := h
    cases e
    exact ty_tup h1.sq
  | lst xs =>
    obtain ⟨a, vs, rfl, _, h1⟩ := r.lst h rfl
    cases e
    exact ty_lst (by assumption)
  | scr xs =>
    obtain ⟨a, vs, rfl, _, h1⟩ := r.lst h rfl
    cases e
    exact ty_lst (by assumption)
  | ref l =>
    cases q : st[l]? with
    | none =>
      have e2 : (match st[l]? with
        | some (.lst _) => some Ty.list
        | _ => none) = some t := e
      rw [q] at e2
      cases e2
    | some o =>
      have e2 : (match st[l]? with
        | some (.lst _) => some Ty.list
        | _ => none) = some t := e
      rw [q] at e2
      cases o with
      | lst ys =>
        cases e2
        obtain ⟨a, vs, rfl, _, h1⟩ := r.lst (xs := ys) h (lstOf_at q)
        exact ty_lst (by assumption)
      | _ => cases e2
  | _ => cases e
end
section
variable {X : Cx} {G : Cfg}
/-- isinstance(x, one) -/
theorem cr_isi (hK : X.K = G.K) (c : Ty) : CallR X (.builtin "isinstance") (fun vs H Q => ∃ ρ st x v t, vs = [v, .ty c.ty] ∧ Rel G ρ H st ∧ RelP G ρ H x v ∧ tyOf st x = some t ∧ Q (.bl (t.sub c)) H) := by
  intro pins s σ H vs us Q I rs h
  obtain ⟨ρ, st, x, v, t, rfl, r, hx, e, k⟩ := h
  have ty := ty_ok r hx e
  rw [← hK] at ty
  exact call_isi pins s σ H _ us Q I rs ⟨v, _, _, _, _, rfl, .ty _, ty, sub_kit t c, k⟩
theorem cls_ty : ∀ ts : List Ty, Paired ClsV (ts.map fun t => V.ty t.ty) (ts.map fun t => Value.type t.ty)
  | [] => .nil
  | t :: ts => .cons (.ty _) (cls_ty ts)
theorem cr_isiT (hK : X.K = G.K) (ts : List Ty) : CallR X (.builtin "isinstance") (fun vs H Q => ∃ ρ st x v t p, vs = [v, .ref p] ∧ H p = some (.tup (ts.map fun t => V.ty t.ty)) ∧ Rel G ρ H st ∧ RelP G ρ H x v ∧ tyOf st x = some t ∧ Q (.bl (ts.any fun c => t.sub c)) H) := by
  intro pins s σ H vs us Q I rs h
  obtain ⟨ρ, st, x, v, t, p, rfl, hp, r, hx, e, k⟩ := h
  have ty := ty_ok r hx e
  rw [← hK] at ty
  exact call_isiT pins s σ H _ us Q I rs ⟨v, p, _, _, _, _, rfl, hp, cls_ty ts, ty, any_kit t ts, k⟩
theorem ty_boot (t : Ty) (h : t ≠ .none) : bootBuiltins t.nm = some (.type t.ty) := by
  cases t <;> first | (exact absurd rfl h) | decide +kernel
theorem ty_name (t : Ty) : t.nm ≠ "__name__" ∧ (t.nm == ("__debug__" : Str)) = false := by
  cases t <;> decide
theorem glo_at {S : Sc} {x : Str} (hs : X.env.scope = S.sc) (h : gloB S.sc x = true) : Gl X x := by
  unfold gloB at h
  split at h
  · rename_i e
    show X.env.scope.names.lookup x = _
    rw [hs]
    exact e
  · cases h
theorem pa_ty {S : Sc} (hs : X.env.scope = S.sc) (hb : ∀ x, S.T.blts.contains x = true → X.mg x = none) : ∀ {ts : List Ty} {es : List PySem.Expr}, okTy S ts es = true → ∃ t, PA X es t ∧ ∀ σ H Q, Q (ts.map fun t => V.ty t.ty) H → t σ H Q
  | [], [], _ => ⟨_, pa_nil, fun σ H Q q => q⟩
  | t :: ts, e :: es, h => by
    cases e with
    | Name x p =>
      obtain ⟨h1, h2⟩ := band h
      obtain ⟨h3, h4⟩ := band h1
      obtain ⟨h5, h6⟩ := band h3
      obtain ⟨h7, h8⟩ := band h5
      have e := of_decide_eq_true h7
      subst e
      obtain ⟨u, pu, ku⟩ := pa_ty hs hb h2
      have hn : t ≠ .none := by
        have : decide (t = .none) = false := by simpa using h4
        exact of_decide_eq_false this
      refine ⟨_, pa_cons (pe_bltn (v := .ty t.ty) (glo_at hs h8) (hb _ h6) (ty_boot t hn) rfl (ty_name t).1 (ty_name t).2) pu (by rfl), fun σ H Q q => ku σ H _ q⟩
    | _ => cases h
  | [], _ :: _, h => by cases h
  | _ :: _, [], h => by cases h
end
/-! ### methods -/
section
variable {X : Cx} {G : Cfg} {W : Cw} {O : Orc} {o e : PySem.Expr} {p q : PX} {pos apos : Pos}
theorem PE_str {e : PySem.Expr} {t : TE} (h : PE X e t) : PE X e (fun σ H Q => t σ H fun x H1 => ∃ y, x = .str y ∧ Q (.str y) H1) :=
  ⟨fun pins s σ H Q I z => thn (h.run pins s σ H _ I z) fun v s1 ⟨x, H1, I1, r1, y, ey, z1⟩ => ⟨x, H1, I1, r1, by rw [ey]; exact z1⟩⟩
theorem onSt2_of {α : Type} {f : Sto → Option (α × Sto)} {st st' : Sto} {r : R α} (h : onSt2 f st = some (r, st')) : ∃ a, f st = some (a, st') ∧ r = .ok a := by
  have h2 : (match f st with
    | some p => some (R.ok p.1, p.2)
    | none => none) = some (r, st') := h
  cases e : f st with
  | none =>
    rw [e] at h2
    cases h2
  | some p =>
    rw [e] at h2
    cases h2
    exact ⟨_, rfl, rfl⟩
theorem bm0_ok {m : Bm0} (ho : PE X o (tE G W O p)) (hb : baseB o = true) (hl : oneLine apos pos = true) (hm : okM0 m = true) : PE X (.Call (.Attribute o (bm0Name m) apos) [] [] pos) (tE G W O (.bm0 m p)) := by
  have key : ∀ (f : Str → Str), (∀ x st r, bm0D m x st = some r → ∃ a, x = .str a ∧ a.length ≤ 5592405 ∧ r = (.str (f a), st)) → ∀ {σ H} {Q : VK}, tE G W O (.bm0 m p) σ H Q →
      tBM0 X.K "str" (fun x xs H Q => ∃ a, x = .str a ∧ xs = [] ∧ a.length ≤ 5592405 ∧ Q (.str (f a)) H) (tE G W O p) σ H Q := fun f hf {σ H Q} z => by
    obtain ⟨ρ, st, env, r, st', q1, q2, q3, q4⟩ := z
    refine tG_bind q1 q2 q3 q4 fun x s1 ρ1 H1 v hm f1 s r1 rp e1 p1 => ?_
    obtain ⟨d, z1, rfl⟩ := onSt2_of f1
    obtain ⟨a, rfl, hz, ed⟩ := hf _ _ _ z1
    cases rp
    cases ed
    exact ⟨rfl, a, rfl, rfl, hz, p1 ρ1 H1 _ Step.refl r1 rfl⟩
  cases m with
  | lower =>
    refine PE_imp (pe_bm0 PySem.F.plainAttrs_str PySem.F.slot_str_lower PySem.F.type_str_lower mt_lower ho (base_of hb) hl) fun σ H Q z => key Txt.lower (fun x st r h => ?_) z
    cases x with
    | str a =>
      have h2 : (if a.length ≤ 5592405 then some (D.str (Txt.lower a), st) else none) = some r := h
      split at h2
      · rename_i hz
        cases h2
        exact ⟨a, rfl, hz, rfl⟩
      · cases h2
    | _ => cases h
  | upper =>
    refine PE_imp (pe_bm0 PySem.F.plainAttrs_str PySem.F.slot_str_upper PySem.F.type_str_upper mt_upper ho (base_of hb) hl) fun σ H Q z => key Txt.upper (fun x st r h => ?_) z
    cases x with
    | str a =>
      have h2 : (if a.length ≤ 5592405 then some (D.str (Txt.upper a), st) else none) = some r := h
      split at h2
      · rename_i hz
        cases h2
        exact ⟨a, rfl, hz, rfl⟩
      · cases h2
    | _ => cases h
  | _ => cases hm
theorem bm1_rd {m : Bm1} {T : String} {K : PySem.W.Frag} (hT : ∀ {ρ H st x v}, Rel G ρ H st → RelP G ρ H x v → bm1K m st x = true → tyV K T v H) {σ : L2.St} {H : Hp} {Q : VK} (z : tE G W O (.bm1 m p q) σ H Q) : tBM K T (rM1 G m) (tE G W O p) (tCons (tE G W O q) tNil) σ H Q := by
  obtain ⟨ρ, st, env, r, st', q1, q2, q3, q4⟩ := z
  refine tG_bind q1 q2 q3 q4 fun x s1 ρ1 H1 v hm f1 s r1 rp e1 p1 => ?_
  rcases bind_some f1 with ⟨_, s2, f2, f3⟩ | ⟨y, f2, _⟩
  · obtain ⟨_, f4, _, rfl⟩ := onSt_of f2
    split at f4
    · rename_i hk
      refine ⟨hT r1 rp hk, ?_⟩
      refine tG_bind r1 e1 f3 p1 fun y s3 ρ3 H3 u hm3 f5 s3' r3 rp3 e3 p3 => ?_
      obtain ⟨d, z1, rfl⟩ := onSt2_of f5
      exact ⟨ρ3, s3, x, y, u, d, st', rfl, r3, rp.step s3', rp3, z1, p3⟩
    · cases f4
  · obtain ⟨_, _, f4, _⟩ := onSt_of f2
    cases f4
theorem bm1_ok {m : Bm1} (hK : X.K = G.K) (ho : PE X o (tE G W O p)) (he : PE X e (tE G W O q)) (hp : plainE e = true) (hb : baseB o = true) (hl : oneLine apos pos = true) (hm : okM1 m = true) : PE X (.Call (.Attribute o (bm1Name m) apos) [e] [] pos) (tE G W O (.bm1 m p q)) := by
  have hs := plain_star hp [] X.env
  have pa : PA X [e] (tCons (tE G W O q) tNil) := pa_cons he pa_nil hs
  have few : ((backTo pos (starEach [e] X.env)).all (fun x => !x.1) && (backToKw pos (keywordEach [] X.env)).all (fun x => x.1.isSome)
      && decide ([e].length + ([] : List Keyword).length + (if ([] : List Keyword).isEmpty then 0 else 1) < 30)) = true := by
    rw [hs]
    rfl
  have hstr : ∀ m' : Bm1, (∀ st x, bm1K m' st x = (match x with
    | .str _ => true
    | _ => false)) → ∀ {ρ H st x v}, Rel G ρ H st → RelP G ρ H x v → bm1K m' st x = true → tyV X.K "str" v H := fun m' h {ρ H st x v} r rp hk => by
    rw [h] at hk
    cases x with
    | str a =>
      cases rp
      rfl
    | _ => cases hk
  cases m with
  | append =>
    refine PE_imp (pe_bm PySem.F.plainAttrs_list PySem.F.slot_list_append PySem.F.type_list_append mt_append' ho pa (base_of hb) few hl hs) fun σ H Q z => bm1_rd (fun {ρ H st x v} r rp hk => ?_) z
    have hk : (lstX st x).isSome = true := hk
    cases ex : lstX st x with
    | none =>
      rw [ex] at hk
      cases hk
    | some xs =>
      obtain ⟨a, vs, rfl, h1, _⟩ := r.lstX rp ex
      exact .inl ⟨rfl, vs, SqL.of h1⟩
  | split => exact PE_imp (pe_bm PySem.F.plainAttrs_str PySem.F.slot_str_split PySem.F.type_str_split mt_split' ho pa (base_of hb) few hl hs) fun σ H Q z => bm1_rd (hstr .split fun _ _ => rfl) z
  | join => exact PE_imp (pe_bm PySem.F.plainAttrs_str PySem.F.slot_str_join PySem.F.type_str_join (mt_join' hK) ho pa (base_of hb) few hl hs) fun σ H Q z => bm1_rd (hstr .join fun _ _ => rfl) z
  | find => exact PE_imp (pe_bm PySem.F.plainAttrs_str PySem.F.slot_str_find PySem.F.type_str_find (mt_str1 (f := fun a b => .int (Txt.find a b)) (fv := fun a b => .int (Txt.find a b)) (fun _ _ _ => rfl) no1 (fun _ _ _ _ => rfl) mt_find) ho pa (base_of hb) few hl hs) fun σ H Q z => bm1_rd (hstr .find fun _ _ => rfl) z
  | startswith => exact PE_imp (pe_bm PySem.F.plainAttrs_str PySem.F.slot_str_startswith PySem.F.type_str_startswith (mt_str1 (f := fun a b => .bl (Txt.startswith a b)) (fv := fun a b => .bl (Txt.startswith a b)) (fun _ _ _ => rfl) no2 (fun _ _ _ _ => rfl) mt_startswith) ho pa (base_of hb) few hl hs) fun σ H Q z => bm1_rd (hstr .startswith fun _ _ => rfl) z
  | endswith => exact PE_imp (pe_bm PySem.F.plainAttrs_str PySem.F.slot_str_endswith PySem.F.type_str_endswith (mt_str1 (f := fun a b => .bl (Txt.endswith a b)) (fv := fun a b => .bl (Txt.endswith a b)) (fun _ _ _ => rfl) no3 (fun _ _ _ _ => rfl) mt_endswith) ho pa (base_of hb) few hl hs) fun σ H Q z => bm1_rd (hstr .endswith fun _ _ => rfl) z
  | _ => cases hm
where
  no1 : ∀ (x y : D) (st : Sto), (∀ a b, x = .str a → y ≠ .str b) → bm1D .find x y st = none := fun x y st h => by
    cases x <;> first | rfl | (cases y <;> first | rfl | exact absurd rfl (h _ _ rfl))
  no2 : ∀ (x y : D) (st : Sto), (∀ a b, x = .str a → y ≠ .str b) → bm1D .startswith x y st = none := fun x y st h => by
    cases x <;> first | rfl | (cases y <;> first | rfl | exact absurd rfl (h _ _ rfl))
  no3 : ∀ (x y : D) (st : Sto), (∀ a b, x = .str a → y ≠ .str b) → bm1D .endswith x y st = none := fun x y st h => by
    cases x <;> first | rfl | (cases y <;> first | rfl | exact absurd rfl (h _ _ rfl))
end
/-! ### walks -/
section
variable {G : Cfg}
mutual
theorem deq_eq : ∀ {x y : D}, D.deq x y = true → x = y
  | .non, y, h => by cases y <;> first | rfl | cases h
  | .bl a, y, h => by
    cases y <;> first | (cases h; done) | skip
    exact congrArg D.bl (eq_of_beq h)
  | .int a, y, h => by
    cases y <;> first | (cases h; done) | skip
    exact congrArg D.int (of_decide_eq_true h)
  | .str a, y, h => by
    cases y <;> first | (cases h; done) | skip
    exact congrArg D.str (of_decide_eq_true h)
  | .tup a, y, h => by
    cases y <;> first | (cases h; done) | skip
    exact congrArg D.tup (deqs_eq h)
  | .lst a, y, h => by
    cases y <;> first | (cases h; done) | skip
    exact congrArg D.lst (deqs_eq h)
  | .dct a, y, h => by
    cases y <;> first | (cases h; done) | skip
    exact congrArg D.dct (deqk_eq h)
  | .obj c a, y, h => by
    cases y <;> first | (cases h; done) | skip
    obtain ⟨h1, h2⟩ := band h
    rw [of_decide_eq_true h1, deqf_eq h2]
  | .ref a, y, h => by
    cases y <;> first | (cases h; done) | skip
    exact congrArg D.ref (eq_of_beq h)
  | .fn a, y, h => by
    cases y <;> first | (cases h; done) | skip
    exact congrArg D.fn (of_decide_eq_true h)
  | .scr a, y, h => by cases y <;> cases h
  | .wd a, y, h => by cases y <;> cases h
theorem deqs_eq : ∀ {x y : List D}, D.deqs x y = true → x = y
  | [], y, h => by cases y <;> first | rfl | cases h
  | a :: r, y, h => by
    cases y <;> first | (cases h; done) | skip
    obtain ⟨h1, h2⟩ := band h
    rw [deq_eq h1, deqs_eq h2]
theorem deqk_eq : ∀ {x y : List (Key × D)}, D.deqk x y = true → x = y
  | [], y, h => by cases y <;> first | rfl | cases h
  | (k, a) :: r, y, h => by
    cases y <;> first | (cases h; done) | skip
    rename_i p t
    obtain ⟨j, b⟩ := p
    obtain ⟨h1, h2⟩ := band h
    obtain ⟨h3, h4⟩ := band h2
    rw [of_decide_eq_true h1, deq_eq h3, deqk_eq h4]
theorem deqf_eq : ∀ {x y : List (Str × D)}, D.deqf x y = true → x = y
  | [], y, h => by cases y <;> first | rfl | cases h
  | (k, a) :: r, y, h => by
    cases y <;> first | (cases h; done) | skip
    rename_i p t
    obtain ⟨j, b⟩ := p
    obtain ⟨h1, h2⟩ := band h
    obtain ⟨h3, h4⟩ := band h2
    rw [of_decide_eq_true h1, deq_eq h3, deqf_eq h4]
end
/-- it walks the items xs while d is held -/
def WalkG (G : Cfg) (J : It) (ρ0 : Lo) (H0 : Hp) (d : D) (xs : List D) : Prop := ∃ Gp Y, Walk J xs.length Gp Y ∧ (∀ ρ H st, Mv ρ0 ρ H0 H → Rel G ρ H st → heldD d xs st = true → Gp H) ∧
  ∀ i ρ H st x H', i < xs.length → Mv ρ0 ρ H0 H → Rel G ρ H st → heldD d xs st = true → Y i H x H' → ∃ y, xs[i]? = some y ∧ Step ρ ρ H H' ∧ Rel G ρ H' st ∧ RelP G ρ H' y x
theorem held_lst {ρ0 ρ : Lo} {H0 H : Hp} {st0 st : Sto} {d : D} {xs : List D} (e : lstOf st0 d = some xs) (h : heldD d xs st = true) : lstOf st d = some xs := by
  cases d with
  | ref l =>
    have h2 : (match st[l]? with
      | some (.lst ys) => D.deqs ys xs
      | _ => false) = true := h
    cases q : st[l]? with
    | none =>
      rw [q] at h2
      cases h2
    | some o =>
      rw [q] at h2
      cases o with
      | lst ys =>
        rw [lstOf_at q]
        exact congrArg some (deqs_eq h2)
      | _ => cases h2
  | _ => exact e
theorem walk_l {ρ0 : Lo} {H0 : Hp} {st0 : Sto} {d : D} {xs : List D} {a : Addr} (hd : RelP G ρ0 H0 d (.ref a)) (e : lstOf st0 d = some xs) : WalkG G (Itl G.K a) ρ0 H0 d xs := by
  refine ⟨fun H => ∃ vs, SqL G.K H a vs ∧ vs.length = xs.length, fun i H x H' => H' = H ∧ ∀ vs, SqL G.K H a vs → vs[i]? = some x, ⟨fun i H hi ⟨vs, h1, h2⟩ => ?_, fun H ⟨vs, h1, h2⟩ => ⟨vs, h1, Nat.le_of_eq h2⟩, fun i H x H' hi g y => y⟩, fun ρ H st s r h => ?_, fun i ρ H st x H' hi s r h y => ?_⟩
  · have hv : i < vs.length := by rw [h2]; exact hi
    exact ⟨vs, vs[i], h1, List.getElem?_eq_getElem hv⟩
  · obtain ⟨a', vs, ea, h1, h2⟩ := r.lst (hd.mv s) (held_lst (ρ0 := ρ0) (ρ := ρ) (H0 := H0) (H := H) e h)
    cases ea
    exact ⟨vs, h1, h2.length.symm⟩
  · obtain ⟨a', vs, ea, h1, h2⟩ := r.lst (hd.mv s) (held_lst (ρ0 := ρ0) (ρ := ρ) (H0 := H0) (H := H) e h)
    cases ea
    obtain ⟨rfl, y2⟩ := y
    refine ⟨xs[i], List.getElem?_eq_getElem hi, Step.refl, r, ?_⟩
    obtain ⟨v, h3, h4⟩ := h2.get (List.getElem?_eq_getElem hi)
    rw [y2 vs h1] at h3
    cases h3
    exact h4
theorem walk_t {ρ0 : Lo} {H0 : Hp} {xs : List D} {vs : List V} {a : Addr} (ha : AtT G ρ0 H0 a vs) (hx : RelPs G ρ0 H0 xs vs) (d : D) (hd : ∀ st, heldD d xs st = true) : WalkG G (Itt G.K a) ρ0 H0 d xs := by
  have hl : xs.length = vs.length := hx.length
  refine ⟨fun H => SqT G.K H a vs, YAt vs, by rw [hl]; exact walk_tup, fun ρ H st s r h => (ha.mv s).sq, fun i ρ H st x H' hi s r h y => ?_⟩
  obtain ⟨rfl, y2⟩ := y
  obtain ⟨v, h3, h4⟩ := (hx.mv s).get (List.getElem?_eq_getElem hi)
  rw [y2] at h3
  cases h3
  exact ⟨_, List.getElem?_eq_getElem hi, Step.refl, r, h4⟩
theorem walk_s {ρ0 : Lo} {H0 : Hp} {z : Str} : WalkG G (Its z) ρ0 H0 (.str z) (z.cps.toList.map fun c => D.str ⟨#[c]⟩) := by
  refine ⟨_, _, by rw [List.length_map, Array.length_toList]; exact walk_str, fun _ _ _ _ _ _ => trivial, fun i ρ H st x H' hi s r h y => ?_⟩
  obtain ⟨rfl, c, y1, rfl⟩ := y
  exact ⟨.str ⟨#[c]⟩, by rw [List.getElem?_map, Array.getElem?_toList, y1]; rfl, Step.refl, r, rfl⟩
theorem walk_r {ρ0 : Lo} {H0 : Hp} {lo : Int} {n : Nat} : WalkG G (Itr lo n) ρ0 H0 .non ((List.range n).map fun i => .int (lo + (i : Nat))) := by
  refine ⟨_, _, by rw [List.length_map, List.length_range]; exact walk_range, fun _ _ _ _ _ _ => trivial, fun i ρ H st x H' hi s r h y => ?_⟩
  obtain ⟨rfl, rfl⟩ := y
  rw [List.length_map, List.length_range] at hi
  exact ⟨.int (lo + i), by rw [List.getElem?_map, List.getElem?_range hi]; rfl, Step.refl, r, rfl⟩
theorem enumD_get : ∀ {xs : List D} {n i : Nat}, (enumD n xs)[i]? = xs[i]?.map fun x => D.tup [.int ((n + i : Nat) : Int), x]
  | [], n, i => by simp [enumD]
  | x :: xs, n, 0 => by simp [enumD]
  | x :: xs, n, i + 1 => by
    show (enumD (n + 1) xs)[i]? = _
    rw [enumD_get]
    have : n + 1 + i = n + (i + 1) := by omega
    rw [this]
    simp
theorem enumD_len : ∀ {xs : List D} {n : Nat}, (enumD n xs).length = xs.length
  | [], n => rfl
  | x :: xs, n => congrArg Nat.succ enumD_len
theorem unref_lst {st : Sto} {ρ : Lo} {H : Hp} {d : D} {v : V} {xs : List D} (hu : unRef d = true) (h : RelP G ρ H d v) (e : lstOf st d = some xs) : ∃ a vs, v = .ref a ∧ AtL G ρ H a vs ∧ RelPs G ρ H xs vs := by
  cases d with
  | lst ys =>
    obtain ⟨a, vs, e1, n, h1, h2⟩ := h
    cases e
    exact ⟨a, vs, e1, .inl ⟨n, .inl h1⟩, h2⟩
  | scr ns =>
    obtain ⟨a, e1, h1⟩ := h
    cases e
    exact ⟨a, _, e1, h1, relPs_ints ns⟩
  | ref l => cases hu
  | _ => cases e
theorem pair_at {ρ : Lo} {H : Hp} {st : Sto} {T : Addr} {x y : V} {d e : D} (r : Rel G ρ H st) (hT : H T = none) (h1 : RelP G ρ H d x) (h2 : RelP G ρ H e y) : Step ρ ρ H (upd H T (.tup [x, y])) ∧ Rel G ρ (upd H T (.tup [x, y])) st ∧ RelP G ρ (upd H T (.tup [x, y])) (.tup [d, e]) (.ref T) :=
  ⟨step_new hT, r.new hT, T, _, rfl, AtT.of upd_same (r.notin hT), _, _, rfl, h1.step (step_new hT), _, _, rfl, h2.step (step_new hT), rfl⟩
theorem walk_e {ρ0 : Lo} {H0 : Hp} {xs : List D} {vs : List V} {a : Addr} (ha : AtL G ρ0 H0 a vs) (hx : RelPs G ρ0 H0 xs vs) : WalkG G (Ite G.K a) ρ0 H0 .non (enumD 0 xs) := by
  have hl : xs.length = vs.length := hx.length
  refine ⟨fun H => SqL G.K H a vs, YPair (fun i => some (.int (i : Nat))) (fun i => vs[i]?), by rw [enumD_len, hl]; exact walk_enum, fun ρ H st s r h => (ha.mv s).sq, fun i ρ H st x H' hi s r h y => ?_⟩
  obtain ⟨T, x, y, rfl, hT, rfl, y1, y2⟩ := y
  cases y1
  rw [enumD_len] at hi
  obtain ⟨v, h3, h4⟩ := (hx.mv s).get (List.getElem?_eq_getElem hi)
  have y2 : vs[i]? = some y := y2
  rw [y2] at h3
  cases h3
  refine ⟨.tup [.int (i : Nat), xs[i]], by rw [enumD_get, List.getElem?_eq_getElem hi]; simp, pair_at r hT rfl h4⟩
theorem zipD_get : ∀ {xs ys : List D} {i : Nat} {x y : D}, xs[i]? = some x → ys[i]? = some y → (zipD xs ys)[i]? = some (.tup [x, y])
  | [], _, i, x, y, h, _ => by simp at h
  | _ :: _, [], i, x, y, _, h => by simp at h
  | a :: xs, b :: ys, 0, x, y, h1, h2 => by
    simp at h1 h2
    subst h1
    subst h2
    rfl
  | a :: xs, b :: ys, i + 1, x, y, h1, h2 => by
    show (zipD xs ys)[i]? = _
    exact zipD_get (by simpa using h1) (by simpa using h2)
theorem zipD_len : ∀ {xs ys : List D}, (zipD xs ys).length = min xs.length ys.length
  | [], _ => by simp [zipD]
  | _ :: _, [] => by simp [zipD]
  | a :: xs, b :: ys => by
    show (zipD xs ys).length + 1 = _
    rw [zipD_len]
    simp only [List.length_cons]
    omega
theorem walk_z {ρ0 : Lo} {H0 : Hp} {xs ys : List D} {vs us : List V} {a b : Addr} (ha : AtL G ρ0 H0 a vs) (hx : RelPs G ρ0 H0 xs vs) (hb : AtL G ρ0 H0 b us) (hy : RelPs G ρ0 H0 ys us) : WalkG G (Itz G.K a b) ρ0 H0 .non (zipD xs ys) := by
  refine ⟨fun H => SqL G.K H a vs ∧ SqL G.K H b us, YPair (fun i => vs[i]?) (fun i => us[i]?), walk_zip (by rw [zipD_len, hx.length, hy.length]), fun ρ H st s r h => ⟨(ha.mv s).sq, (hb.mv s).sq⟩, fun i ρ H st x H' hi s r h y => ?_⟩
  obtain ⟨T, x, y, rfl, hT, rfl, y1, y2⟩ := y
  rw [zipD_len] at hi
  have hi1 : i < xs.length := by omega
  have hi2 : i < ys.length := by omega
  obtain ⟨v, h3, h4⟩ := (hx.mv s).get (List.getElem?_eq_getElem hi1)
  obtain ⟨u, h5, h6⟩ := (hy.mv s).get (List.getElem?_eq_getElem hi2)
  have y1 : vs[i]? = some x := y1
  have y2 : us[i]? = some y := y2
  rw [y1] at h3
  cases h3
  rw [y2] at h5
  cases h5
  exact ⟨_, zipD_get (List.getElem?_eq_getElem hi1) (List.getElem?_eq_getElem hi2), pair_at r hT h4 h6⟩
theorem walk_zT {K : PySem.W.Frag} {a b : Addr} {xs ys : List V} {n : Nat} (hn : n = min xs.length ys.length) : Walk (RZ.ItzT K a b) n (fun H => SqT K H a xs ∧ SqT K H b ys) (YPair (fun i => xs[i]?) (fun i => ys[i]?)) := by
  subst hn
  refine ⟨fun i H hi g => ?_, fun H g => ?_, fun i H x H' hi g y => ?_⟩
  · have h1 : i < xs.length := by omega
    have h2 : i < ys.length := by omega
    exact ⟨xs, ys, xs[i], ys[i], g.1, g.2, List.getElem?_eq_getElem h1, List.getElem?_eq_getElem h2⟩
  · exact ⟨xs, ys, g.1, g.2, by omega⟩
  · obtain ⟨T, x, y, e, hT, e', q1, q2⟩ := y
    exact ⟨T, x, y, e, hT, e', q1 xs g.1, q2 ys g.2⟩
theorem walk_zt {ρ0 : Lo} {H0 : Hp} {xs ys : List D} {vs us : List V} {a b : Addr} (ha : AtT G ρ0 H0 a vs) (hx : RelPs G ρ0 H0 xs vs) (hb : AtT G ρ0 H0 b us) (hy : RelPs G ρ0 H0 ys us) : WalkG G (RZ.ItzT G.K a b) ρ0 H0 .non (zipD xs ys) := by
  refine ⟨fun H => SqT G.K H a vs ∧ SqT G.K H b us, YPair (fun i => vs[i]?) (fun i => us[i]?), walk_zT (by rw [zipD_len, hx.length, hy.length]), fun ρ H st s r h => ⟨(ha.mv s).sq, (hb.mv s).sq⟩, fun i ρ H st x H' hi s r h y => ?_⟩
  obtain ⟨T, x, y, rfl, hT, rfl, y1, y2⟩ := y
  rw [zipD_len] at hi
  have hi1 : i < xs.length := by omega
  have hi2 : i < ys.length := by omega
  obtain ⟨v, h3, h4⟩ := (hx.mv s).get (List.getElem?_eq_getElem hi1)
  obtain ⟨u, h5, h6⟩ := (hy.mv s).get (List.getElem?_eq_getElem hi2)
  have y1 : vs[i]? = some x := y1
  have y2 : us[i]? = some y := y2
  rw [y1] at h3
  cases h3
  rw [y2] at h5
  cases h5
  exact ⟨_, zipD_get (List.getElem?_eq_getElem hi1) (List.getElem?_eq_getElem hi2), pair_at r hT h4 h6⟩
theorem RelPk.get {ρ : Lo} {H : Hp} : ∀ {d : List (Key × D)} {v : List (Key × V)} {i : Nat} {p : Key × D}, RelPk G ρ H d v → d[i]? = some p → ∃ y, v[i]? = some (p.1, y) ∧ RelP G ρ H p.2 y
  | [], _, i, x, _, e => by simp at e
  | (_, _) :: _, _, 0, x, h, e => by
    obtain ⟨v, t, rfl, h1, h2⟩ := h
    simp only [List.getElem?_cons_zero, Option.some.injEq] at e
    subst e
    exact ⟨v, by simp, h1⟩
  | (_, _) :: _, _, i + 1, x, h, e => by
    obtain ⟨v, t, rfl, h1, h2⟩ := h
    simp only [List.getElem?_cons_succ] at e ⊢
    exact RelPk.get h2 e
theorem key_rel {ρ : Lo} {H : Hp} (k : Key) : RelP G ρ H (keyD k) (kV k) := by
  cases k <;> exact rfl
/-- a locked dict, by its keys -/
theorem walk_k {ρ0 : Lo} {H0 : Hp} {kvs : List (Key × D)} {kvs' : List (Key × V)} {d : Addr} {o : Obj} (hd : H0 d = some (.frz o (.dK kvs'))) (n : d ∉ ρ0) (h : RelPk G ρ0 H0 kvs kvs') (dd : D) (hh : ∀ st, heldD dd (kvs.map fun p => keyD p.1) st = true) : WalkG G (Itk d o kvs') ρ0 H0 dd (kvs.map fun p => keyD p.1) := by
  have hl : kvs.length = kvs'.length := h.length
  refine ⟨fun H => H d = some (.frz o (.dK kvs')), _, by rw [List.length_map, hl]; exact walk_keys, fun ρ H st s r _ => s.keep' hd n, fun i ρ H st x H' hi s r _ y => ?_⟩
  obtain ⟨rfl, k, v, y1, rfl⟩ := y
  rw [List.length_map] at hi
  obtain ⟨u, h3, _⟩ := h.get (List.getElem?_eq_getElem hi)
  rw [y1] at h3
  cases h3
  exact ⟨_, by rw [List.getElem?_map, List.getElem?_eq_getElem hi]; rfl, Step.refl, r, key_rel _⟩
/-- .. by its pairs -/
theorem walk_p {ρ0 : Lo} {H0 : Hp} {kvs : List (Key × D)} {kvs' : List (Key × V)} {d : Addr} {o : Obj} (hd : H0 d = some (.frz o (.dK kvs'))) (n : d ∉ ρ0) (h : RelPk G ρ0 H0 kvs kvs') : WalkG G (Iti d o kvs') ρ0 H0 .non (kvs.map fun p => .tup [keyD p.1, p.2]) := by
  have hl : kvs.length = kvs'.length := h.length
  refine ⟨fun H => H d = some (.frz o (.dK kvs')), _, by rw [List.length_map, hl]; exact walk_items, fun ρ H st s r _ => s.keep' hd n, fun i ρ H st x H' hi s r _ y => ?_⟩
  obtain ⟨T, x, y, rfl, hT, rfl, y1, y2⟩ := y
  rw [List.length_map] at hi
  obtain ⟨u, h3, h4⟩ := (h.mv s).get (List.getElem?_eq_getElem hi)
  have y1 : (kvs'[i]?.map fun kv => kV kv.1) = some x := y1
  have y2 : kvs'[i]?.map Prod.snd = some y := y2
  rw [h3] at y1 y2
  cases y1
  cases y2
  exact ⟨_, by rw [List.getElem?_map, List.getElem?_eq_getElem hi]; rfl, pair_at r hT (key_rel _) h4⟩
/-- a dict that will be walked is locked -/
def lockT (t : TE) : TE := fun σ H Q => t σ H fun x H1 => ∃ d kvs, x = .ref d ∧ ((H1 d = some (.dK kvs) ∧ ∀ od, Q x (upd H1 d (.frz od (.dK kvs)))) ∨ ∃ od, H1 d = some (.frz od (.dK kvs)) ∧ Q x H1)
theorem pe_lockD {X : Cx} {e : PySem.Expr} {t : TE} (h : PE X e t) : PE X e (lockT t) := by
  refine ⟨fun pins s σ H Q I hw => thn (h.run pins s σ H _ I hw) fun v s1 ⟨x, H1, I1, r, d, kvs, ex, hc⟩ => ?_⟩
  rcases hc with ⟨h1, q⟩ | ⟨od, h1, q⟩
  · obtain ⟨od, I2⟩ := I1.lock h1 True.intro
    exact ⟨x, _, I2, r, q od⟩
  · exact ⟨x, H1, I1, r, q⟩
theorem step_lock {ρ : Lo} {H : Hp} {d : Addr} {kvs : List (Key × V)} {od : Obj} (n : d ∉ ρ) (h : H d = some (.dK kvs)) : Step ρ ρ H (upd H d (.frz od (.dK kvs))) :=
  ⟨⟨[], by simp⟩, rfl, fun a h n => absurd h n, fun a o e _ => by
    by_cases q : a = d
    · subst q
      rw [h] at e
      cases e
      exact .inr ⟨fun z => n (.inr z), rfl, od, upd_same⟩
    · exact .inl (by rw [upd_ne q]; exact e)⟩
/-- .. by values -/
theorem lock_rd {ρ : Lo} {H : Hp} {st : Sto} {kvs : List (Key × D)} {v : V} {Q : VK} (r : Rel G ρ H st) (h : RelP G ρ H (.dct kvs) v) (q : ∀ H' d kvs' od, v = .ref d → d ∉ ρ → Step ρ ρ H H' → Rel G ρ H' st → H' d = some (.frz od (.dK kvs')) → RelPk G ρ H' kvs kvs' → Q v H') :
    ∃ d kvs, v = .ref d ∧ ((H d = some (.dK kvs) ∧ ∀ od, Q v (upd H d (.frz od (.dK kvs)))) ∨ ∃ od, H d = some (.frz od (.dK kvs)) ∧ Q v H) := by
  obtain ⟨d, kvs', rfl, ⟨n, h1⟩, h2⟩ := h
  rcases h1 with h1 | ⟨od, h1⟩
  · refine ⟨d, kvs', rfl, .inl ⟨h1, fun od => ?_⟩⟩
    have s := step_lock (od := od) n h1
    exact q _ d kvs' od rfl n s (r.stay s fun a ha => upd_ne fun z => n (.inl (z ▸ ha))) upd_same (h2.step s)
  · exact ⟨d, kvs', rfl, .inr ⟨od, h1, q H d kvs' od rfl n Step.refl r h1 h2⟩⟩
/-- the reading of a source -/
def tI (G : Cfg) (W : Cw) (O : Orc) (src : PSrc) : TI := fun σ H R => ∃ ρ st env r st', Rel G ρ H st ∧ EnvR G ρ H W env σ ∧ evI O src env st = some (r, st') ∧ (match r with
  | .ok (d, xs) => ∀ ρ' H' J, Step ρ ρ' H H' → Rel G ρ' H' st' → WalkG G J ρ' H' d xs → R J H'
  | .ex x => ∀ ρ' H' dd fs', Step ρ ρ' H H' → Rel G ρ' H' st' → ExR G ρ' H' x dd fs' → W.x (.ref (G.cA x.cls)) (some dd) σ H')
theorem PI_imp {X : Cx} {tg e : PySem.Expr} {t t' : TI} (h : PI X tg e t) (hi : ∀ σ H Q, t' σ H Q → t σ H Q) : PI X tg e t' := ⟨fun pins s σ H Q I q => h.run pins s σ H Q I (hi σ H Q q)⟩
end
end Mp
end
section
set_option Elab.async false
set_option linter.all false
set_option maxRecDepth 100000
set_option maxHeartbeats 2000000
/-! Mp: a, *b = xs and *b, a = xs. -/
namespace Mp
open PySem PySem.Spec PyProof.Rows L2
section
variable {pr : Program} {wl : World} {B : Around} {Er : Value → Shared → Prop} {z : Shared}
/-- what is told of the way from the iterator on -/
theorem st_end {l it : Addr} {its : Array Value} {i : Nat} {T : String} {St : Nat → Heap → Prop} {R : List Value → Shared → Prop} {g1 : Heap} (hz : its.size ≤ sizeLine) (hi : i < 2) (hs : 1 ≤ its.size)
    (hT : T = "str_ascii_iterator" ∨ T = "str_iterator" ∨ T = "list_iterator" ∨ T = "tuple_iterator") (Wk : Walks pr wl B.in1 it [it, l] [it] its.size (fun j v => its[j]? = some v) St) (ht : ∀ j (u : Shared), St j u.heap → u.TypeIs (.ref it) T)
    (hst : St i g1) (b1 : it < g1.objs.size) (b2 : l < g1.objs.size)
    (h : ∀ (g2 : Heap) (tk : Nat), (∀ b o, b ≠ it → g1.get? b = some o → g2.get? b = some o) → R (its.toList.take i ++ [.ref g2.objs.size] ++ (its.toList.drop i).drop (its.size - 1)) { z with heap := g2.push { cls := .type "list", data := .seq ((its.toList.drop i).take (its.size - 1)).toArray }, toks := tk }) :
    wpAny (model pr wl) B (do
      if (its.toList.take i).length < i then
        rule "unpack.star.too-few-before"
        raiseError "ValueError" s!"not enough values to unpack (expected at least {2 - 1}, got {(its.toList.take i).length})"
      let rest ← holding (its.toList.take i) (collect (.ref it))
      let after := 2 - 1 - i
      if rest.length < after then
        rule "unpack.star.too-few"
        raiseError "ValueError" s!"not enough values to unpack (expected at least {2 - 1}, got {i + rest.length})"
      let mid := rest.length - after
      return its.toList.take i ++ [← newList (rest.take mid)] ++ rest.drop mid) R Er { z with heap := g1 } := by
  have n1 : ¬ (its.toList.take i).length < i := by
    rw [List.length_take, Array.length_toList]
    omega
  have n2 : (its.toList.drop i).length = its.size - i := by simp
  rw [if_neg n1]
  refine wpAny_bind (wpAny_holding (PySem.W.kun_collect (s := { z with heap := g1 }) hT Wk ht (k := i) (by omega) hst b1 b2 (fun g2 tk keep => ?_) hz))
  have n3 : ¬ (its.toList.drop i).length < 2 - 1 - i := by
    rw [n2]
    omega
  have n4 : (its.toList.drop i).length - (2 - 1 - i) = its.size - 1 := by
    rw [n2]
    omega
  show wpAny _ _ (if (its.toList.drop i).length < 2 - 1 - i then _ else _) _ _ _
  rw [if_neg n3]
  show wpAny _ _ (newList ((its.toList.drop i).take ((its.toList.drop i).length - (2 - 1 - i))) >>= fun d => pure (its.toList.take i ++ [d] ++ (its.toList.drop i).drop ((its.toList.drop i).length - (2 - 1 - i)))) _ _ _
  rw [n4]
  refine wpAny_bind (wpAny_newObj_type (wpAny_pure (h g2 tk keep)) ?_)
  show _ ≤ sizeLine
  simp only [List.size_toArray, List.length_take]
  omega
theorem st_lst {l : Addr} {its : Array Value} {i : Nat} {R : List Value → Shared → Prop} (hl : z.heap.IsList l its) (hh : B.handled = none) (hz : its.size ≤ sizeLine) (hi : i < 2) (hs : 1 ≤ its.size)
    (h : ∀ g2 tk, Heap.ExtBut z.heap.objs.size z.heap g2 → R (its.toList.take i ++ [.ref g2.objs.size] ++ (its.toList.drop i).drop (its.size - 1)) { z with heap := g2.push { cls := .type "list", data := .seq ((its.toList.drop i).take (its.size - 1)).toArray }, toks := tk }) :
    wpAny (model pr wl) B (unpackItems (.ref l) 2 (some i)) R Er z := by
  have apart : l ≠ z.heap.objs.size := by
    obtain ⟨o, ho, _⟩ := hl
    exact Nat.ne_of_lt (Heap.lt_size ho)
  unfold unpackItems notIterableAtAll
  refine wpAny_bind (wpAny_bind (wpAny_specialOf hl.typeIs slot_list_iter.lookup (wpAny_pure ?_)))
  simp only [Bool.false_eq_true, if_false]
  refine wpAny_bind (wpAny_holding (wpAny_pyIter_list hl (wpAny_bind (wpAny_holding (PySem.W.kun_draw apart i 0 _ _ ⟨_, Heap.get?_push_size _ rfl, rfl, rfl⟩ (hl.push _) (by omega) fun g1 t1 s1 => ?_)))))
  have l1 : g1.IsList l its := (hl.push _).extBut s1.extBut apart
  rw [Nat.zero_add] at t1
  rw [List.drop_zero]
  obtain ⟨oi, hoi, _⟩ := id t1
  obtain ⟨ol, hol, _⟩ := id l1
  exact st_end hz hi hs (.inr (.inr (.inl rfl))) (Walks.list (A := B.in1) hh z.heap.objs.size l apart its) (fun _ _ st => st.1.typeIs) ⟨t1, l1⟩ (Heap.lt_size hoi) (Heap.lt_size hol) fun g2 tk keep => h g2 tk fun b o hb e => keep b o hb (s1.extBut b o hb (Heap.get?_push_of_some _ e))
theorem st_tup {l : Addr} {its : Array Value} {i : Nat} {R : List Value → Shared → Prop} (hl : IsTup z.heap l its) (hh : B.handled = none) (hz : its.size ≤ sizeLine) (hi : i < 2) (hs : 1 ≤ its.size)
    (h : ∀ g2 tk, Heap.ExtBut z.heap.objs.size z.heap g2 → R (its.toList.take i ++ [.ref g2.objs.size] ++ (its.toList.drop i).drop (its.size - 1)) { z with heap := g2.push { cls := .type "list", data := .seq ((its.toList.drop i).take (its.size - 1)).toArray }, toks := tk }) :
    wpAny (model pr wl) B (unpackItems (.ref l) 2 (some i)) R Er z := by
  have apart : l ≠ z.heap.objs.size := by
    obtain ⟨o, ho, _⟩ := hl
    exact Nat.ne_of_lt (Heap.lt_size ho)
  unfold unpackItems notIterableAtAll
  refine wpAny_bind (wpAny_bind (wpAny_specialOf hl.typeIs slot_tuple_iter.lookup (wpAny_pure ?_)))
  simp only [Bool.false_eq_true, if_false]
  refine wpAny_bind (wpAny_holding (iter_tuple hl (wpAny_bind (wpAny_holding (draw_tuple apart i 0 _ _ ⟨_, Heap.get?_push_size _ rfl, rfl, rfl⟩ (hl.push _) (by omega) fun g1 t1 s1 => ?_)))))
  have l1 : IsTup g1 l its := (hl.push _).extBut s1.extBut apart
  rw [Nat.zero_add] at t1
  rw [List.drop_zero]
  obtain ⟨oi, hoi, _⟩ := id t1
  obtain ⟨ol, hol, _⟩ := id l1
  exact st_end hz hi hs (.inr (.inr (.inr rfl))) (Walks.tuple (A := B.in1) hh z.heap.objs.size l apart its) (fun _ _ st => st.1.typeIs) ⟨t1, l1⟩ (Heap.lt_size hoi) (Heap.lt_size hol) fun g2 tk keep => h g2 tk fun b o hb e => keep b o hb (s1.extBut b o hb (Heap.get?_push_of_some _ e))
end
section
variable {X : Cx}
theorem vals_take : ∀ {vs : List V} {us : List Value} (n : Nat), Vals vs us → Vals (vs.take n) (us.take n)
  | _, _, 0, _ => .nil
  | _, _, n + 1, .nil => .nil
  | _, _, n + 1, .cons r t => .cons r (vals_take n t)
theorem vals_drop : ∀ {vs : List V} {us : List Value} (n : Nat), Vals vs us → Vals (vs.drop n) (us.drop n)
  | _, _, 0, h => h
  | _, _, n + 1, .nil => .nil
  | _, _, n + 1, .cons r t => vals_drop n t
/-- the reading: i: where the star stands; xs: the items -/
def gStar (K : PySem.W.Frag) (i : Nat) (gs : TGs) : TG := fun v σ H Q => ∃ l xs, v = .ref l ∧ (SqL K H l xs ∨ SqT K H l xs) ∧ 1 ≤ xs.length ∧ ∀ D, H D = none → gs (xs.take i ++ [.ref D] ++ (xs.drop i).drop (xs.length - 1)) σ (upd H D (.lst ((xs.drop i).take (xs.length - 1)))) Q
theorem pg_star {es : List PySem.Expr} {k i : Nat} {pos : Pos} {gs : TGs} (hc : X.calm = true) (hi : i < 2) {fs : List PySem.Expr} (h : PGs X fs gs) (he : (assignEach es X.env).map (·.2) = (assignEach fs X.env).map (·.2)) (hn : (assignEach es X.env).length = 2) (hst : (assignEach es X.env).findIdx? (·.1) = some i) : PG X (.Tuple es k pos) (gStar X.K i gs) := by
  refine ⟨fun pins s σ H v u Q I r hw => ?_⟩
  obtain ⟨l, xs, rfl, hq, hl, q⟩ := hw
  obtain rfl : u = Value.ref l := r
  rw [assign_Tuple]
  refine wpAny_bind (wpAny_standAt ?_)
  unfold unpack
  rw [hn, hst, he]
  have fin : ∀ {its : List Value}, Vals xs its → its.length ≤ sizeLine → ∀ g2 tk, Heap.ExtBut s.heap.objs.size s.heap g2 →
      wpAny (model X.prog X.w) X.A (assignInOrder ((assignEach fs X.env).map (·.2)) (its.toArray.toList.take i ++ [.ref g2.objs.size] ++ (its.toArray.toList.drop i).drop (its.toArray.size - 1))) (fun _ s' => ∃ σ' H', Inv X pins σ' H' s' ∧ Q σ' H') X.xe
        { s with heap := g2.push { cls := .type "list", data := .seq ((its.toArray.toList.drop i).take (its.toArray.size - 1)).toArray }, toks := tk } := fun {its} rv hz g2 tk ex => by
    have hlen : its.length = xs.length := rv.length.symm
    have I1 : Inv X pins σ H { s with heap := g2, toks := tk } := I.kept fun b o e => ex b o (Nat.ne_of_lt (Heap.lt_size e)) e
    have nD : H g2.objs.size = none := I1.hok.fresh (Nat.le_refl _)
    have hsz : ((xs.drop i).take (xs.length - 1)).length ≤ sizeLine := by
      simp only [List.length_take, List.length_drop]
      omega
    have I2 : Inv X pins σ (upd H g2.objs.size (.lst ((xs.drop i).take (xs.length - 1)))) { s with heap := g2.push { cls := .type "list", data := .seq ((its.toArray.toList.drop i).take (its.toArray.size - 1)).toArray }, toks := tk } := by
      refine I1.laid (t' := tk) (fun b o e => Heap.get?_push_of_some _ e) (Nat.le_refl _) ⟨hsz, (its.drop i).take (xs.length - 1), 0, vals_take _ (vals_drop _ rv), ?_⟩
      have e1 : ((its.toArray.toList.drop i).take (its.toArray.size - 1)) = (its.drop i).take (xs.length - 1) := by
        simp [hlen]
      rw [e1]
      exact Heap.get?_push_size _ rfl
    refine h.run pins _ σ _ _ _ Q I2 ?_ (q _ nD)
    have e2 : its.toArray.size - 1 = xs.length - 1 := by simp [hlen]
    rw [e2, show its.toArray.toList = its from rfl]
    exact ((vals_take i rv).append (.cons (show RelV (.ref g2.objs.size) (.ref g2.objs.size) from rfl) .nil)).append (vals_drop _ (vals_drop i rv))
  rcases hq with hq | hq
  · obtain ⟨its, rv, p, hz0⟩ := I.list hq
    have hz : its.length ≤ sizeLine := by rw [← rv.length]; exact hz0
    exact wpAny_bind (wpAny_holding (st_lst p.isList (I.ok.hd hc) (by simpa using hz) hi (by rw [List.size_toArray, ← rv.length]; exact hl) fun g2 tk ex => fin rv (by simpa using hz) g2 tk ex))
  · obtain ⟨its, rv, p, hz0⟩ := I.tuple hq
    have hz : its.length ≤ sizeLine := by rw [← rv.length]; exact hz0
    exact wpAny_bind (wpAny_holding (st_tup (show IsTup s.heap l its.toArray from p) (I.ok.hd hc) (by simpa using hz) hi (by rw [List.size_toArray, ← rv.length]; exact hl) fun g2 tk ex => fin rv (by simpa using hz) g2 tk ex))
end
end Mp
end
section
set_option Elab.async false
set_option linter.all false
set_option maxRecDepth 100000
set_option maxHeartbeats 2000000
/-! Mp: targets. -/
namespace Mp
open PySem PySem.Spec PyProof.Rows L2
/-- nothing but these slots is another one -/
def Same (sl : List Nat) (σ σ' : L2.St) : Prop := σ'.length = σ.length ∧ ∀ i, i ∉ sl → σ'[i]? = σ[i]?
theorem Same.set {sl : List Nat} {σ : L2.St} {i : Nat} {v : Option V} (h : i ∈ sl) : Same sl σ (σ.set i v) := ⟨by simp, fun j hj => by
  rw [List.getElem?_set_ne]
  intro e
  exact hj (e ▸ h)⟩
theorem Same.trans {sl : List Nat} {σ σ1 σ2 : L2.St} (a : Same sl σ σ1) (b : Same sl σ1 σ2) : Same sl σ σ2 := ⟨b.1.trans a.1, fun i h => (b.2 i h).trans (a.2 i h)⟩
theorem Same.mono {sl sl' : List Nat} {σ σ' : L2.St} (a : Same sl σ σ') (h : ∀ i ∈ sl, i ∈ sl') : Same sl' σ σ' := ⟨a.1, fun i hi => a.2 i fun q => hi (h i q)⟩
theorem wipe_get {σ : L2.St} {i : Nat} : ∀ {vs : List Nat}, i ∈ vs → i < σ.length → (wipe σ vs)[i]? = some none
  | [], h, _ => by simp at h
  | v :: vs, h, hl => by
    unfold wipe
    by_cases e : v = i
    · subst e
      rw [List.getElem?_set_self (by rw [wipe_length]; exact hl)]
    · rw [List.getElem?_set_ne e]
      exact wipe_get (by rcases List.mem_cons.mp h with q | q; exact absurd q.symm e; exact q) hl
theorem Same.wipe {sl vs : List Nat} {σ σ' : L2.St} (a : Same sl σ σ') (h : ∀ i ∈ sl, i ∈ vs) : wipe σ' vs = wipe σ vs := by
  apply List.ext_getElem?
  intro i
  by_cases hi : i ∈ vs
  · by_cases hl : i < σ.length
    · rw [wipe_get hi hl, wipe_get hi (by rw [a.1]; exact hl)]
    · rw [List.getElem?_eq_none (by rw [wipe_length, a.1]; omega), List.getElem?_eq_none (by rw [wipe_length]; omega)]
  · rw [wipe_out hi, wipe_out hi]
    exact a.2 i fun q => hi (h i q)
section
variable {G : Cfg}
theorem EnvR.put {ρ : Lo} {H : Hp} {W : Cw} {env : Env} {σ : L2.St} {i : Nat} {x : D} {v : V} (h : EnvR G ρ H W env σ) (hi : i < env.length) (hx : RelP G ρ H x v) (hs : ∀ k, W.h = some k → k.slot ≠ i) : EnvR G ρ H W (env.set i (some x)) (σ.set i (some v)) := by
  refine ⟨by simp [h.len], fun j d e => ?_, fun k e => ?_⟩
  · by_cases hj : i = j
    · subst hj
      rw [List.getElem?_set_self hi] at e
      cases e
      exact ⟨v, List.getElem?_set_self (by rw [← h.len]; exact hi), hx⟩
    · rw [List.getElem?_set_ne hj] at e
      rw [List.getElem?_set_ne hj]
      exact h.at_ j d e
  · obtain ⟨a, b, c⟩ := h.hx k e
    exact ⟨by rw [List.getElem?_set_ne (Ne.symm (hs k e))]; exact a, b, c⟩
/-- the reading of a target -/
def gP (G : Cfg) (W : Cw) (tg : Tg) : TG := fun v σ H Q => ∃ ρ st env x env', Rel G ρ H st ∧ EnvR G ρ H W env σ ∧ RelP G ρ H x v ∧ put1 tg x env = some env' ∧ ∀ ρ' H' σ', Step ρ ρ' H H' → Rel G ρ' H' st → EnvR G ρ' H' W env' σ' → Same (tgSl tg) σ σ' → Q σ' H'
def gPs (G : Cfg) (W : Cw) (tgs : List Tg) : TGs := fun vs σ H Q => ∃ ρ st env xs env', Rel G ρ H st ∧ EnvR G ρ H W env σ ∧ RelPs G ρ H xs vs ∧ puts tgs xs env = some env' ∧ ∀ ρ' H' σ', Step ρ ρ' H H' → Rel G ρ' H' st → EnvR G ρ' H' W env' σ' → Same (tgSls tgs) σ σ' → Q σ' H'
theorem PG_imp {X : Cx} {e : PySem.Expr} {t t' : TG} (h : PG X e t) (hi : ∀ v σ H Q, t' v σ H Q → t v σ H Q) : PG X e t' := ⟨fun pins s σ H v u Q I r q => h.run pins s σ H v u Q I r (hi v σ H Q q)⟩
theorem PGs_imp {X : Cx} {e : List PySem.Expr} {t t' : TGs} (h : PGs X e t) (hi : ∀ v σ H Q, t' v σ H Q → t v σ H Q) : PGs X e t' := ⟨fun pins s σ H v u Q I r q => h.run pins s σ H v u Q I r (hi v σ H Q q)⟩
def tgPlain : PySem.Expr → Bool
  | .Starred .. => false
  | _ => true
theorem plain_asg {e : PySem.Expr} (h : tgPlain e = true) (es : List PySem.Expr) (env : PySem.Env) : assignEach (e :: es) env = (false, assign e env) :: assignEach es env := by
  cases e <;> first | rfl | cases h
theorem okTg_plain {S : Sc} {t : Tg} {e : PySem.Expr} (h : okTg S t e = true) : tgPlain e = true := by
  cases e <;> first | rfl | (cases t <;> cases h)
theorem okTgs_marks {S : Sc} {env : PySem.Env} : ∀ {ts : List Tg} {es : List PySem.Expr}, okTgs S ts es = true → (assignEach es env).findIdx? (·.1) = none ∧ (assignEach es env).length = ts.length
  | [], [], _ => ⟨rfl, rfl⟩
  | [], _ :: _, h => by cases h
  | _ :: _, [], h => by cases h
  | t :: ts, e :: es, h => by
    obtain ⟨h1, h2⟩ := band h
    obtain ⟨i1, i2⟩ := okTgs_marks (env := env) h2
    rw [plain_asg (okTg_plain h1)]
    refine ⟨?_, by simp [i2]⟩
    rw [List.findIdx?_cons]
    simp [i1]
theorem puts_len : ∀ {ts : List Tg} {xs : List D} {env env' : Env}, puts ts xs env = some env' → xs.length = ts.length
  | [], [], _, _, _ => rfl
  | [], _ :: _, _, _, h => by cases h
  | _ :: _, [], _, _, h => by cases h
  | t :: ts, x :: xs, env, env', h => by
    obtain ⟨e, _, h2⟩ := Option.bind_eq_some_iff.mp (show (put1 t x env).bind (fun e => puts ts xs e) = some env' from h)
    exact congrArg Nat.succ (puts_len h2)
variable {P : Prg} {k : Nat}
/-- the handled exception's slot is no target -/
def NoHnd (W : Cw) (sl : List Nat) : Prop := ∀ h, W.h = some h → h.slot ∉ sl
theorem pn_ok {S : Sc} {X : Cx} {W : Cw} {i : Nat} {x : Str} {pos : Pos} (g : Good G P k S X) (h1 : slotB S i x = true) (h2 : locB S x = true) : PG X (.Name x pos) (gName i) := by
  obtain ⟨n1, _, _⟩ := slot_of g h1
  obtain ⟨l1, l2⟩ := loc_of g h2
  exact pg_name (by rw [g.N]; exact g.nd) n1 l1 l2
mutual
theorem sTg : ∀ (tg : Tg) {S : Sc} {X : Cx} {W : Cw} {e : PySem.Expr}, Good G P k S X → X.calm = true → NoHnd W (tgSl tg) → okTg S tg e = true → PG X e (gP G W tg)
  | .nm i, S, X, W, e, g, hc, nh, h => by
    cases e with
    | Name x pos =>
      obtain ⟨h1, h2⟩ := band h
      refine PG_imp (pn_ok (W := W) g h1 h2) fun v σ H Q q => ?_
      obtain ⟨ρ, st, env, x, env', q1, q2, q3, q4, q5⟩ := q
      have q6 : (if i < env.length then some (env.set i (some x)) else none) = some env' := q4
      split at q6
      · rename_i hi
        cases q6
        exact q5 ρ H _ Step.refl q1 (q2.put hi q3 fun k hk e => nh k hk (by rw [e]; exact List.mem_singleton.mpr rfl)) (Same.set (List.mem_singleton.mpr rfl))
      · cases q6
    | _ => cases h
  | .tp ts, S, X, W, e, g, hc, nh, h => by
    cases e with
    | Tuple es j pos =>
      have hs := sTgs ts g hc nh (show okTgs S ts es = true from h)
      obtain ⟨m1, m2⟩ := okTgs_marks (env := X.env) (show okTgs S ts es = true from h)
      refine PG_imp (pg_tup hc hs m2 m1) fun v σ H Q q => ?_
      obtain ⟨ρ, st, env, x, env', q1, q2, q3, q4, q5⟩ := q
      cases x with
      | tup xs =>
        obtain ⟨a, vs, rfl, h1, h2⟩ := q3
        have h3 := h1.sq
        rw [← g.K] at h3
        have q4 : puts ts xs env = some env' := q4
        exact ⟨a, vs, rfl, h3, by rw [← h2.length, puts_len q4], ρ, st, env, xs, env', q1, q2, h2, q4, q5⟩
      | _ => cases q4
    | _ => cases h
  | .hd i j, S, X, W, e, g, hc, nh, h => by
    cases e with
    | Tuple es kk pos =>
      cases es with
      | nil => cases h
      | cons a t => cases t with
        | nil => cases a <;> cases h
        | cons b t => cases t with
          | cons _ _ => cases a <;> first | (cases h; done) | (cases b <;> first | (cases h; done) | (rename_i v _; cases v <;> cases h))
          | nil =>
            cases a with
            | Name x p =>
              cases b with
              | Starred y p2 =>
                cases y with
                | Name y p3 =>
                  obtain ⟨h1, h2⟩ := band h
                  obtain ⟨h3, h4⟩ := band h1
                  obtain ⟨h5, h6⟩ := band h3
                  have ga := pn_ok (W := W) (pos := p) g h5 h6
                  have gb := pn_ok (W := W) (pos := p3) g h4 h2
                  have gs := pgs_cons ga (pgs_cons gb pgs_nil)
                  refine PG_imp (pg_star (i := 1) (fs := [.Name x p, .Name y p3]) hc (by decide) gs rfl rfl rfl) fun v σ H Q q => ?_
                  obtain ⟨ρ, st, env, d, env', q1, q2, q3, q4, q5⟩ := q
                  have key : ∀ (z : D) (zs : List D) (l : Addr) (vs : List V), v = .ref l → (SqL X.K H l vs ∨ SqT X.K H l vs) → RelPs G ρ H (z :: zs) vs → (if i < env.length ∧ j < env.length then some ((env.set i (some z)).set j (some (.lst zs))) else none) = some env' →
                      gStar X.K 1 (gCons (gName i) (gCons (gName j) gNil)) v σ H Q := fun z zs l vs ev sq rp ep => by
                    subst ev
                    obtain ⟨u, us, rfl, r1, r2⟩ := rp
                    split at ep
                    · rename_i hij
                      cases ep
                      refine ⟨l, u :: us, rfl, sq, by simp, fun D hD => ?_⟩
                      have et : (List.drop 1 (u :: us)).take ((u :: us).length - 1) = us := by simp
                      have ed : (List.drop 1 (u :: us)).drop ((u :: us).length - 1) = [] := by simp
                      rw [et, ed]
                      have s1 := step_new (ρ := ρ) (o := HO.lst us) hD
                      refine ⟨u, [.ref D], rfl, .ref D, [], rfl, rfl, ?_⟩
                      refine q5 ρ _ _ s1 (q1.new hD) ?_ ((Same.set (by simp [tgSl])).trans (Same.set (by simp [tgSl])))
                      refine EnvR.put (EnvR.put (q2.step s1) hij.1 (r1.step s1) fun k hk e => nh k hk (by simp [tgSl, e])) (by simpa using hij.2) ?_ fun k hk e => nh k hk (by simp [tgSl, e])
                      exact ⟨D, us, rfl, q1.notin hD, upd_same, r2.step s1⟩
                    · cases ep
                  cases d with
                  | tup xs =>
                    obtain ⟨l, vs, rfl, a1, a2⟩ := q3
                    have a3 := a1.sq
                    rw [← g.K] at a3
                    cases xs with
                    | nil => cases q4
                    | cons z zs => exact key z zs l vs rfl (.inr a3) a2 q4
                  | lst xs =>
                    obtain ⟨l, vs, rfl, n, a1, a2⟩ := q3
                    cases xs with
                    | nil => cases q4
                    | cons z zs => exact key z zs l vs rfl (.inl (SqL.of a1)) a2 q4
                  | _ => cases q4
                | _ => cases h
              | _ => cases h
            | _ => cases h
    | _ => cases h
  | .tl j i, S, X, W, e, g, hc, nh, h => by
    cases e <;> cases h
theorem sTgs : ∀ (tgs : List Tg) {S : Sc} {X : Cx} {W : Cw} {es : List PySem.Expr}, Good G P k S X → X.calm = true → NoHnd W (tgSls tgs) → okTgs S tgs es = true → PGs X es (gPs G W tgs)
  | [], S, X, W, es, g, hc, nh, h => by
    cases es with
    | nil =>
      refine PGs_imp pgs_nil fun v σ H Q q => ?_
      obtain ⟨ρ, st, env, xs, env', q1, q2, q3, q4, q5⟩ := q
      cases xs with
      | cons _ _ => cases q4
      | nil =>
        cases q3
        cases q4
        exact ⟨rfl, q5 ρ H σ Step.refl q1 q2 ⟨rfl, fun _ _ => rfl⟩⟩
    | cons _ _ => cases h
  | t :: ts, S, X, W, es, g, hc, nh, h => by
    cases es with
    | nil => cases h
    | cons e es =>
      obtain ⟨h1, h2⟩ := band h
      refine PGs_imp (pgs_cons (sTg t g hc (fun k hk q => nh k hk (List.mem_append_left _ q)) h1) (sTgs ts g hc (fun k hk q => nh k hk (List.mem_append_right _ q)) h2) (by rw [plain_asg (okTg_plain h1)]; rfl)) fun v σ H Q q => ?_
      obtain ⟨ρ, st, env, xs, env', q1, q2, q3, q4, q5⟩ := q
      cases xs with
      | nil => cases q4
      | cons x xs =>
        obtain ⟨v, vs, rfl, r1, r2⟩ := q3
        obtain ⟨e1, p1, p2⟩ := Option.bind_eq_some_iff.mp (show (put1 t x env).bind (fun e => puts ts xs e) = some env' from q4)
        refine ⟨v, vs, rfl, ρ, st, env, x, e1, q1, q2, r1, p1, fun ρ1 H1 σ1 s1 rr1 en1 sm1 => ?_⟩
        exact ⟨ρ1, st, e1, xs, env', rr1, en1, r2.step s1, p2, fun ρ2 H2 σ2 s2 rr2 en2 sm2 => q5 ρ2 H2 σ2 (s1.trans s2) rr2 en2 ((sm1.mono fun i hi => List.mem_append_left _ hi).trans (sm2.mono fun i hi => List.mem_append_right _ hi))⟩
end
end
end Mp
end
section
set_option Elab.async false
set_option linter.all false
set_option maxRecDepth 100000
set_option maxHeartbeats 2000000
/-! Mp: comprehensions; sources. -/
namespace Mp
open PySem PySem.Spec PyProof.Rows L2
theorem RelPk.put {G : Cfg} {ρ : Lo} {H : Hp} {kvs : List (Key × D)} {kvs' : List (Key × V)} {k : Key} {d : D} {v : V} (h : RelPk G ρ H kvs kvs') (q : RelP G ρ H d v) : RelPk G ρ H (setD k d kvs) (putK kvs' k v) := by
  have any : ∀ {l : List (Key × D)} {l' : List (Key × V)}, RelPk G ρ H l l' → (l.any fun p => decide (p.1 = k)) = l'.any fun p => decide (p.1 = k) := by
    intro l
    induction l with
    | nil =>
      intro l' h
      cases h
      rfl
    | cons p l ih =>
      intro l' h
      obtain ⟨j, x⟩ := p
      obtain ⟨u, t, rfl, _, h2⟩ := h
      rw [List.any_cons, List.any_cons, ih h2]
  have mp : ∀ {l : List (Key × D)} {l' : List (Key × V)}, RelPk G ρ H l l' → RelPk G ρ H (l.map fun p => if p.1 = k then (p.1, d) else p) (l'.map fun p => if p.1 = k then (p.1, v) else p) := by
    intro l
    induction l with
    | nil =>
      intro l' h
      cases h
      rfl
    | cons p l ih =>
      intro l' h
      obtain ⟨j, x⟩ := p
      obtain ⟨u, t, rfl, h1, h2⟩ := h
      rw [List.map_cons, List.map_cons]
      by_cases e : j = k
      · rw [if_pos e, if_pos e]
        exact ⟨v, _, rfl, q, ih h2⟩
      · rw [if_neg e, if_neg e]
        exact ⟨u, _, rfl, h1, ih h2⟩
  have ap : ∀ {l : List (Key × D)} {l' : List (Key × V)}, RelPk G ρ H l l' → RelPk G ρ H (l ++ [(k, d)]) (l' ++ [(k, v)]) := by
    intro l
    induction l with
    | nil =>
      intro l' h
      cases h
      exact ⟨v, [], rfl, q, rfl⟩
    | cons p l ih =>
      intro l' h
      obtain ⟨j, x⟩ := p
      obtain ⟨u, t, rfl, h1, h2⟩ := h
      exact ⟨u, _, rfl, h1, ih h2⟩
  unfold setD putK
  rw [any h]
  split
  · exact mp h
  · exact ap h
section
variable {G : Cfg} {P : Prg} {k : Nat} {X : Cx} {W : Cw} {O : Orc}
/-- a list or dict made of one argument -/
theorem cf_rd {g : Sto → D → Option D} {f : PF} {p : PX} (hf : ∀ {env st}, evF O f env st = ((evE O p env).bind fun x => onSt fun st => g st x) st) {σ : L2.St} {H : Hp} {Q : VK} (q : tF G W O f σ H Q) : tCB (rCF G g) (tCons (tE G W O p) tNil) σ H Q := by
  obtain ⟨ρ, st, env, r, st', q1, q2, q3, q4⟩ := q
  rw [hf] at q3
  refine tF_bind q1 q2 q3 q4 fun x s1 ρ1 H1 v hm f1 s r1 rp e1 p1 => ?_
  obtain ⟨d, z1, rfl, rfl⟩ := onSt_of f1
  exact ⟨ρ1, _, x, v, d, rfl, r1, rp, z1, fun p ho hp c => p1 ρ1 H1 p ho Step.refl r1 hp c⟩
/-- tests of a comprehension -/
theorem pts0 : PTs X [] (tG G W relB (evCs O [])) := ⟨fun pins s σ H Q I q => by
  obtain ⟨ρ, st, env, r, st', q1, q2, q3, q4⟩ := q
  exact pts_nil.run pins s σ H Q I (tG_ret (rel := relB) (a := true) (b := true) q3 q4 q1 rfl)⟩
theorem pts1 {p : PX} {e : PySem.Expr} (hp : PT X e (tT G W O p)) : PTs X [e] (tG G W relB (evCs O [p])) := ⟨fun pins s σ H Q I q => by
  refine (pts_one hp).run pins s σ H Q I ?_
  obtain ⟨ρ, st, env, r, st', q1, q2, q3, q4⟩ := q
  have e1 : evCs O [p] env st = testM O p env st := by
    have e2 : evCs O [p] env st = ((evE O p env).bind fun x => (onSt fun st => truth st x).bind fun c => match c with
      | true => evCs O [] env
      | false => M.ok false) st := rfl
    rw [e2]
    refine bind_congr fun x s _ => ?_
    unfold M.bind onSt
    dsimp only
    cases truth s x with
    | none => rfl
    | some b => cases b <;> rfl
  rw [e1] at q3
  exact ⟨ρ, st, env, r, st', q1, q2, q3, q4⟩⟩
theorem calm_of {α : Type} {m : M α} {st st' : Sto} {r : R α} (h : M.calm m st = some (r, st')) : ∃ a, m st = some (.ok a, st') ∧ r = .ok a := by
  have h2 : (match m st with
    | some (.ok a, s) => some (R.ok a, s)
    | _ => none) = some (r, st') := h
  cases e : m st with
  | none =>
    rw [e] at h2
    cases h2
  | some p =>
    obtain ⟨q, s⟩ := p
    rw [e] at h2
    cases q with
    | ok a =>
      cases h2
      exact ⟨a, rfl, rfl⟩
    | ex _ => cases h2
theorem hold_of {α : Type} {h : Sto → Bool} {m : M α} {st st' : Sto} {r : R α} (e : M.hold h m st = some (r, st')) : h st = true ∧ m st = some (r, st') := by
  have e2 : (match h st with
    | true => m st
    | false => none) = some (r, st') := e
  cases q : h st with
  | true =>
    rw [q] at e2
    exact ⟨rfl, e2⟩
  | false =>
    rw [q] at e2
    cases e2
/-- the new list's address among those that are none of ours -/
theorem mv_more {ρ : Lo} {H : Hp} {p : Addr} {ho : HO} (hp : H p = none) : Mv ρ ⟨ρ.l, p :: ρ.z⟩ H (upd H p ho) := by
  refine ⟨fun h => h, fun {a o} h n => ?_⟩
  have hne : a ≠ p := ne_of_none h hp
  refine ⟨fun q => ?_, .inl (by rw [upd_ne hne]; exact h)⟩
  rcases q with q | q
  · exact n (.inl q)
  · rcases List.mem_cons.mp q with q | q
    · exact hne q
    · exact n (.inr q)
theorem Rel.more {ρ : Lo} {H : Hp} {st : Sto} {p : Addr} {ho : HO} (r : Rel G ρ H st) (hp : H p = none) : Rel G ⟨ρ.l, p :: ρ.z⟩ (upd H p ho) st := by
  have np := r.notin hp
  refine ⟨r.len, r.nd, fun a ha => ?_, fun l o a e1 e2 => ?_⟩
  · rcases List.mem_cons.mp ha with q | q
    · subst q
      exact ⟨nol (ρ := ρ) np, ho, upd_same⟩
    · obtain ⟨n, o, e⟩ := r.zs a q
      exact ⟨n, o, by rw [upd_ne (ne_of_none e hp)]; exact e⟩
  · refine (r.at_ l o a e1 e2).mv (mv_more hp) (upd_ne fun q => ?_)
    subst q
    exact nol (ρ := ρ) np (List.mem_of_getElem? e2)
/-- a store into it -/
theorem mv_z {ρ : Lo} {H : Hp} {p : Addr} {ho : HO} (hz : p ∈ ρ.z) : Mv ρ ρ H (upd H p ho) := ⟨fun h => h, fun {a o} h n => ⟨n, .inl (by
  have hne : a ≠ p := fun q => n (.inr (by rw [q]; exact hz))
  rw [upd_ne hne]
  exact h)⟩⟩
theorem Rel.setz {ρ : Lo} {H : Hp} {st : Sto} {p : Addr} {ho : HO} (r : Rel G ρ H st) (hz : p ∈ ρ.z) : Rel G ρ (upd H p ho) st := by
  refine ⟨r.len, r.nd, fun a ha => ?_, fun l o a e1 e2 => ?_⟩
  · obtain ⟨n, o, e⟩ := r.zs a ha
    by_cases q : a = p
    · subst q
      exact ⟨n, ho, upd_same⟩
    · exact ⟨n, o, by rw [upd_ne q]; exact e⟩
  · refine (r.at_ l o a e1 e2).mv (mv_z hz) (upd_ne fun q => ?_)
    subst q
    exact (r.zs a hz).1 (List.mem_of_getElem? e2)
/-- it is one of ours again -/
theorem mv_less {l z : List Addr} {p : Addr} {H : Hp} : Mv ⟨l, p :: z⟩ ⟨l, z⟩ H H := ⟨fun h => h, fun {a o} h n => ⟨fun q => n (by
  rcases q with q | q
  · exact .inl q
  · exact .inr (List.mem_cons_of_mem _ q)), .inl h⟩⟩
theorem Rel.less {l z : List Addr} {p : Addr} {H : Hp} {st : Sto} (r : Rel G ⟨l, p :: z⟩ H st) : Rel G ⟨l, z⟩ H st :=
  ⟨r.len, r.nd, fun a ha => r.zs a (List.mem_cons_of_mem _ ha), fun l o a e1 e2 => (r.at_ l o a e1 e2).mv mv_less rfl⟩
theorem EnvR.mv {ρ ρ' : Lo} {H H' : Hp} {env : Env} {σ : L2.St} (h : EnvR G ρ H W env σ) (s : Mv ρ ρ' H H') : EnvR G ρ' H' W env σ :=
  ⟨h.len, fun i d e => let ⟨v, a, b⟩ := h.at_ i d e; ⟨v, a, b.mv s⟩, fun k e => let ⟨a, b, fs', c, d⟩ := h.hx k e; ⟨a, s.notin c b, fs', s.keep' c b, d.mv s⟩⟩
theorem EnvR.wiped {ρ : Lo} {H : Hp} {env : Env} {σ : L2.St} (hW : W.h = none) (h : EnvR G ρ H W env σ) : ∀ vs : List Nat, EnvR G ρ H ⟨fun _ _ _ _ => False, none⟩ (wipeE env vs) (wipe σ vs)
  | [] => ⟨h.len, h.at_, fun _ q => nomatch q⟩
  | v :: vs => by
    have ih := EnvR.wiped hW h vs
    refine ⟨by show ((wipeE env vs).set v none).length = ((wipe σ vs).set v none).length; simp [ih.len], fun i d e => ?_, fun _ q => nomatch q⟩
    have e : ((wipeE env vs).set v none)[i]? = some (some d) := e
    show ∃ u, ((wipe σ vs).set v none)[i]? = some (some u) ∧ _
    by_cases q : v = i
    · subst q
      by_cases hl : v < (wipeE env vs).length
      · rw [List.getElem?_set_self hl] at e
        cases e
      · rw [List.getElem?_eq_none (by simpa using hl)] at e
        cases e
    · rw [List.getElem?_set_ne q] at e
      rw [List.getElem?_set_ne q]
      exact ih.at_ i d e
def cutH (H : Hp) (D : Addr) : Hp := fun b => if b = D then none else H b
theorem cut_ne {H : Hp} {D b : Addr} (h : b ≠ D) : cutH H D b = H b := if_neg h
theorem cut_at {H : Hp} {D : Addr} : cutH H D D = none := if_pos rfl
theorem upd_cut {H : Hp} {D : Addr} {ho : HO} (h : H D = some ho) : upd (cutH H D) D ho = H := by
  funext b
  by_cases hb : b = D
  · rw [hb, upd_same, h]
  · rw [upd_ne hb, cut_ne hb]
theorem mv_cut {l z : List Addr} {D : Addr} {H : Hp} : Mv ⟨l, D :: z⟩ ⟨l, z⟩ H (cutH H D) := ⟨fun h => h, fun {a o} h n => by
  have hne : a ≠ D := fun q => n (.inr (by rw [q]; exact List.mem_cons_self))
  exact ⟨(mv_less.out h n).1, .inl (by rw [cut_ne hne]; exact h)⟩⟩
theorem Rel.cut {l z : List Addr} {D : Addr} {H : Hp} {st : Sto} (r : Rel G ⟨l, D :: z⟩ H st) (n : D ∉ (⟨l, z⟩ : Lo)) : Rel G ⟨l, z⟩ (cutH H D) st := by
  refine ⟨r.len, r.nd, fun a ha => ?_, fun j o a e1 e2 => ?_⟩
  · obtain ⟨n1, o, e⟩ := r.zs a (List.mem_cons_of_mem _ ha)
    exact ⟨n1, o, by rw [cut_ne (fun q => n (.inr (by rw [← q]; exact ha)))]; exact e⟩
  · exact (r.at_ j o a e1 e2).mv mv_cut (cut_ne fun q => n (.inl (by rw [← q]; exact List.mem_of_getElem? e2)))
def lcF (O : Orc) (own : List Nat) (tg : Tg) (cs : List PX) (p : PX) (env : Env) (x : D) : M (Option D) := match put1 tg x (wipeE env own) with
  | none => M.no
  | some env' => (evCs O cs env').bind fun
    | false => M.ok none
    | true => (evE O p env').bind fun d => M.ok (some d)
theorem drop_get {α : Type} {xs : List α} {i : Nat} {x : α} (h : xs[i]? = some x) : xs.drop i = x :: xs.drop (i + 1) := by
  obtain ⟨hl, e⟩ := List.getElem?_eq_some_iff.mp h
  rw [List.drop_eq_getElem_cons hl, e]
/-- the invariant -/
def LcInv (G : Cfg) (W : Cw) (D : Addr) (ρ1 : Lo) (H1 : Hp) (env : Env) (σ : L2.St) (go : List Mp.D → List Mp.D → M (List Mp.D)) (xs : List Mp.D) (res : Option (R (List Mp.D) × Sto)) (i : Nat) (H2 : Hp) : Prop :=
  ∃ ρ2 s3 acc vs, Rel G ⟨ρ2.l, D :: ρ2.z⟩ H2 s3 ∧ Step ρ1 ρ2 H1 H2 ∧ Mv ρ1 ⟨ρ2.l, D :: ρ2.z⟩ H1 H2 ∧ D ∉ ρ2 ∧ H2 D = some (.lst vs) ∧ RelPs G ⟨ρ2.l, D :: ρ2.z⟩ H2 acc vs ∧ EnvR G ⟨ρ2.l, D :: ρ2.z⟩ H2 W env σ ∧ go (xs.drop i) acc s3 = res
theorem step_less {l l' z : List Addr} {p : Addr} {H H' : Hp} (s : Step ⟨l, p :: z⟩ ⟨l', p :: z⟩ H H') : Step ⟨l, z⟩ ⟨l', z⟩ H H' := ⟨s.ext, rfl, s.new, fun a o h n => (s.keep a o h n).less⟩
theorem step_of {ρ' : Lo} {l z : List Addr} {p : Addr} {H H' : Hp} (s : Step ⟨l, p :: z⟩ ρ' H H') : ∃ l', ρ' = ⟨l', p :: z⟩ := by
  obtain ⟨l', z'⟩ := ρ'
  have := s.z
  cases this
  exact ⟨l', rfl⟩
/-- the comprehension's reading -/
theorem lc_rd {own : List Nat} {src : PSrc} {tg : Tg} {cs : List PX} {p : PX} {σ : L2.St} {H : Hp} {Q : VK} (hW : W.h = none) (hsl : ∀ i ∈ tgSl tg, i ∈ own) (q : tF G W O (.lc own src tg cs p) σ H Q) :
    tLc (tI G W O src) (gP G ⟨fun _ _ _ _ => False, none⟩ tg) (tG G ⟨fun _ _ _ _ => False, none⟩ relB (evCs O cs)) (tE G ⟨fun _ _ _ _ => False, none⟩ O p) own σ H Q := by
  obtain ⟨ρ, st, env, r, st', q1, q2, q3, q4⟩ := q
  have q5 : ((evI O src env).bind fun s => (M.calm (lcGo (heldD s.1 s.2) (lcF O own tg cs p env) s.2 [])).bind fun ys => M.ok (.lst ys)) st = some (r, st') := q3
  rcases bind_some q5 with ⟨⟨d, xs⟩, s1, f1, f2⟩ | ⟨x, f1, rfl⟩
  · refine ⟨ρ, st, env, .ok (d, xs), s1, q1, q2, f1, fun ρ1 H1 J sp1 r1 wk => ?_⟩
    intro D hD
    obtain ⟨Gp, Y, w, hG, hY⟩ := wk
    rcases bind_some f2 with ⟨ys, s2, f3, f4⟩ | ⟨x, f3, rfl⟩
    · obtain ⟨ys', f5, e5⟩ := calm_of f3
      cases e5
      obtain ⟨rfl, rfl⟩ := ok_of f4
      have nD := r1.notin hD
      refine lc_it w (Pv := LcInv G W D ρ1 H1 env σ (lcGo (heldD d xs) (lcF O own tg cs p env)) xs (some (.ok ys, st'))) ?_ ?_ ?_ ?_
      · exact ⟨ρ1, s1, [], [], r1.more hD, step_new hD, mv_more hD, nD, upd_same, rfl, (q2.step sp1).mv (mv_more hD), by rw [List.drop_zero]; exact f5⟩
      · intro i H2 hi iv
        obtain ⟨ρ2, s3, acc, vs, a1, a2, a3, a4, a5, a6, a7, a8⟩ := iv
        refine hG ⟨ρ2.l, D :: ρ2.z⟩ H2 s3 a3 a1 ?_
        cases e : xs.drop i with
        | nil =>
          rw [e] at a8
          exact (hold_of a8).1
        | cons x r =>
          rw [e] at a8
          exact (hold_of a8).1
      · intro i x H2 H3 hi iv y
        obtain ⟨ρ2, s3, acc, vs, a1, a2, a3, a4, a5, a6, a7, a8⟩ := iv
        have ed : xs.drop i = xs[i] :: xs.drop (i + 1) := List.drop_eq_getElem_cons hi
        rw [ed] at a8
        obtain ⟨b1, b2⟩ := hold_of (show M.hold (heldD d xs) ((lcF O own tg cs p env xs[i]).bind fun o => match o with
          | none => lcGo (heldD d xs) (lcF O own tg cs p env) (xs.drop (i + 1)) acc
          | some y => if acc.length < 16777216 then lcGo (heldD d xs) (lcF O own tg cs p env) (xs.drop (i + 1)) (acc ++ [y]) else M.no) s3 = some (.ok ys, st') from a8)
        obtain ⟨y0, c1, c2, c3, c4⟩ := hY i _ _ s3 x H3 hi a3 a1 b1 y
        rw [List.getElem?_eq_getElem hi] at c1
        cases c1
        have k1 := a7.step c2
        have keep3 : H3 D = some (.lst vs) := (c2.keep D _ a5 (a1.zs D (by simp)).1).exact rfl
        have l3 := a6.step c2
        cases ep : put1 tg xs[i] (wipeE env own) with
        | none =>
          unfold lcF at b2
          rw [ep] at b2
          cases b2
        | some env' =>
          have b3 : ((evCs O cs env').bind fun b => (match b with
            | false => M.ok none
            | true => (evE O p env').bind fun d => M.ok (some d)).bind fun o => match o with
              | none => lcGo (heldD d xs) (lcF O own tg cs p env) (xs.drop (i + 1)) acc
              | some y => if acc.length < 16777216 then lcGo (heldD d xs) (lcF O own tg cs p env) (xs.drop (i + 1)) (acc ++ [y]) else M.no) s3 = some (.ok ys, st') := by
            rw [← M.bind_assoc]
            unfold lcF at b2
            rw [ep] at b2
            exact b2
          refine ⟨_, s3, wipeE env own, xs[i], env', c3, EnvR.wiped hW k1 own, c4, ep, fun ρ4 H4 σ4 s4 r4 e4 sm => ⟨?_, ?_⟩⟩
          · rw [sm.wipe hsl]
            exact (Same.wipe (sl := own) ⟨wipe_length _ _, fun i h => wipe_out h⟩ fun i h => h)
          · obtain ⟨l4, rfl⟩ := step_of s4
            rcases bind_some b3 with ⟨b, s5, d1, d2⟩ | ⟨z, _, d2⟩
            · refine ⟨_, s3, env', .ok b, s5, r4, e4, d1, fun ρ5 H5 b' st5 r5 eb => ?_⟩
              cases eb
              obtain ⟨l5, rfl⟩ := step_of st5
              have up5 := c2.trans (s4.trans st5)
              have sl5 : Step ρ2 ⟨l5, ρ2.z⟩ H2 H5 := step_less up5
              have keep5 : H5 D = some (.lst vs) := (up5.keep D _ a5 (a1.zs D (by simp)).1).exact rfl
              have mv5 : Mv ρ1 ⟨l5, D :: ρ2.z⟩ H1 H5 := a3.step up5
              have nD5 : D ∉ (⟨l5, ρ2.z⟩ : Lo) := sl5.notin a5 a4
              cases b with
              | false =>
                rw [if_neg Bool.false_ne_true]
                exact ⟨⟨l5, ρ2.z⟩, s5, acc, vs, r5, a2.trans sl5, mv5, nD5, keep5, a6.step up5, a7.step up5, d2⟩
              | true =>
                rw [if_pos rfl]
                have e5 := e4.step st5
                have d3 : ((evE O p env').bind fun y => if acc.length < 16777216 then lcGo (heldD d xs) (lcF O own tg cs p env) (xs.drop (i + 1)) (acc ++ [y]) else M.no) s5 = some (.ok ys, st') := by
                  have d4 : (((evE O p env').bind fun d => M.ok (some d)).bind fun o => match o with
                    | none => lcGo (heldD d xs) (lcF O own tg cs p env) (xs.drop (i + 1)) acc
                    | some y => if acc.length < 16777216 then lcGo (heldD d xs) (lcF O own tg cs p env) (xs.drop (i + 1)) (acc ++ [y]) else M.no) s5 = some (.ok ys, st') := d2
                  rw [M.bind_assoc] at d4
                  exact d4
                rcases bind_some d3 with ⟨y, s6, g1, g2⟩ | ⟨z, _, g2⟩
                · refine ⟨_, s5, env', .ok y, s6, r5, e5, g1, fun ρ6 H6 v st6 r6 rp => ?_⟩
                  obtain ⟨l6, rfl⟩ := step_of st6
                  have up6 := up5.trans st6
                  have sl6 : Step ρ2 ⟨l6, ρ2.z⟩ H2 H6 := step_less up6
                  have keep6 : H6 D = some (.lst vs) := (up6.keep D _ a5 (a1.zs D (by simp)).1).exact rfl
                  have hz6 : D ∈ (⟨l6, D :: ρ2.z⟩ : Lo).z := by simp
                  split at g2
                  · rename_i hlen
                    have hvs := a6.length
                    refine ⟨vs, keep6, line_lt (by rw [← hvs]; exact hlen), ⟨l6, ρ2.z⟩, s6, acc ++ [y], vs ++ [v], r6.setz hz6, ?_, ?_, sl6.notin a5 a4, upd_same, ?_, ((a7.step up6).mv (mv_z hz6)), g2⟩
                    · have t1 := a2.trans sl6
                      exact ⟨t1.ext, t1.z, t1.new, fun a o h n => by rw [upd_ne (ne_of_none h hD)]; exact t1.keep a o h n⟩
                    · refine ⟨fun h => (step_less up6).at (a2.at h), fun {a o} h n => ?_⟩
                      obtain ⟨n2, h2⟩ := (a3.step up6).out h n
                      exact ⟨n2, by rw [upd_ne (ne_of_none h hD)]; exact h2⟩
                    · exact ((a6.step up6).mv (mv_z hz6)).append ⟨v, [], rfl, rp.mv (mv_z hz6), rfl⟩
                  · cases g2
                · cases g2
            · cases d2
      · intro H2 iv
        obtain ⟨ρ2, s3, acc, vs, a1, a2, a3, a4, a5, a6, a7, a8⟩ := iv
        rw [List.drop_length] at a8
        obtain ⟨_, b2⟩ := hold_of a8
        cases b2
        have t1 := sp1.trans a2
        have t2 : Step ρ ρ2 H (cutH H2 D) := ⟨t1.ext, t1.z, t1.new, fun a o h n => by
          have hne : a ≠ D := fun q => by
            obtain ⟨u, this⟩ := (sp1.keep a o h n).there
            rw [q, hD] at this
            cases this
          rw [cut_ne hne]
          exact t1.keep a o h n⟩
        have fin := q4 ρ2 (cutH H2 D) D (.lst vs) t2 (a1.cut a4) cut_at ⟨vs, rfl, a6.mv mv_cut⟩
        rw [upd_cut a5] at fin
        exact fin
    · obtain ⟨ys', _, e5⟩ := calm_of f3
      cases e5
  · exact ⟨ρ, st, env, .ex x, st', q1, q2, f1, q4⟩
def dcF (O : Orc) (own : List Nat) (tg : Tg) (cs : List PX) (k p : PX) (env : Env) (x : D) : M (Option (Key × D)) := match put1 tg x (wipeE env own) with
  | none => M.no
  | some env' => (evCs O cs env').bind fun
    | false => M.ok none
    | true => (evE O k env').bind fun y => (evE O p env').bind fun d => M.lift ((keyOf y).map fun k => some (k, d))
/-- a dict comprehension over it -/
theorem dc_it {J : It} {n : Nat} {Gp : Hp → Prop} {Y : Nat → Hp → V → Hp → Prop} (w : Walk J n Gp Y) {g : TG} {tt : TT} {tk tv : TE} {vs : List Nat} {σ : L2.St} {H1 : Hp} {D : Addr} {Qd : Hp → Prop} (Pv : Nat → Hp → Prop) (h0 : Pv 0 (upd H1 D (.dK []))) (hG : ∀ i H, i ≤ n → Pv i H → Gp H)
    (hs : ∀ i x H H', i < n → Pv i H → Y i H x H' → g x (wipe σ vs) H' fun σ2 H2 => wipe σ2 vs = wipe σ vs ∧ tt σ2 H2 fun b H3 =>
      if b = true then tk σ2 H3 fun y H4 => tv σ2 H4 fun z H5 => ∃ kvs k, y = kV k ∧ H5 D = some (.dK kvs) ∧ kvs.length < sizeLine ∧ Pv (i + 1) (upd H5 D (.dK (putK kvs k z))) else Pv (i + 1) H3) (hd : ∀ H, Pv n H → Qd H) :
    ∃ W : Nat → Nat → Hp → Prop, (∃ m, W 0 m (upd H1 D (.dK []))) ∧ ∀ i m H, W i m H →
      (J.stop i H ∧ Qd H) ∨ (J.go i H ∧ ∃ Nx : Hp → Prop, (∀ H', Nx H' → ∃ m', m' < m ∧ W (i + 1) m' H') ∧ ∀ x H', J.yld i H x H' → g x (wipe σ vs) H' fun σ2 H2 => wipe σ2 vs = wipe σ vs ∧ tt σ2 H2 fun b H3 =>
        if b = true then tk σ2 H3 fun y H4 => tv σ2 H4 fun z H5 => ∃ kvs k, y = kV k ∧ H5 D = some (.dK kvs) ∧ kvs.length < sizeLine ∧ Nx (upd H5 D (.dK (putK kvs k z))) else Nx H3) := by
  refine ⟨fun i m H => m = n - i ∧ i ≤ n ∧ Pv i H, ⟨n, by simp, Nat.zero_le _, h0⟩, ?_⟩
  rintro i m H ⟨rfl, hi, p⟩
  have q := hG i H hi p
  by_cases hlt : i < n
  · refine .inr ⟨w.goes i H hlt q, Pv (i + 1), fun H' p' => ⟨n - (i + 1), by omega, rfl, hlt, p'⟩, fun x H' y => hs i x H H' hlt p (w.yields i H x H' hlt q y)⟩
  · have e : i = n := by omega
    subst e
    exact .inl ⟨w.stops H q, hd H p⟩
/-- the invariant -/
def DcInv (G : Cfg) (W : Cw) (D : Addr) (ρ1 : Lo) (H1 : Hp) (env : Env) (σ : L2.St) (go : List Mp.D → List (Key × Mp.D) → M (List (Key × Mp.D))) (xs : List Mp.D) (res : Option (R (List (Key × Mp.D)) × Sto)) (i : Nat) (H2 : Hp) : Prop :=
  ∃ ρ2 s3 acc vs, Rel G ⟨ρ2.l, D :: ρ2.z⟩ H2 s3 ∧ Step ρ1 ρ2 H1 H2 ∧ Mv ρ1 ⟨ρ2.l, D :: ρ2.z⟩ H1 H2 ∧ D ∉ ρ2 ∧ H2 D = some (.dK vs) ∧ RelPk G ⟨ρ2.l, D :: ρ2.z⟩ H2 acc vs ∧ EnvR G ⟨ρ2.l, D :: ρ2.z⟩ H2 W env σ ∧ go (xs.drop i) acc s3 = res
/-- the comprehension's reading -/
theorem dc_rd {own : List Nat} {src : PSrc} {tg : Tg} {cs : List PX} {pk p : PX} {σ : L2.St} {H : Hp} {Q : VK} (hW : W.h = none) (hsl : ∀ i ∈ tgSl tg, i ∈ own) (q : tF G W O (.dc own src tg cs pk p) σ H Q) :
    tDc (tI G W O src) (gP G ⟨fun _ _ _ _ => False, none⟩ tg) (tG G ⟨fun _ _ _ _ => False, none⟩ relB (evCs O cs)) (tE G ⟨fun _ _ _ _ => False, none⟩ O pk) (tE G ⟨fun _ _ _ _ => False, none⟩ O p) own σ H Q := by
  obtain ⟨ρ, st, env, r, st', q1, q2, q3, q4⟩ := q
  have q5 : ((evI O src env).bind fun s => (M.calm (dcGo (heldD s.1 s.2) (dcF O own tg cs pk p env) s.2 [])).bind fun ys => M.ok (.dct ys)) st = some (r, st') := q3
  rcases bind_some q5 with ⟨⟨d, xs⟩, s1, f1, f2⟩ | ⟨x, f1, rfl⟩
  · refine ⟨ρ, st, env, .ok (d, xs), s1, q1, q2, f1, fun ρ1 H1 J sp1 r1 wk => ?_⟩
    intro D hD
    obtain ⟨Gp, Y, w, hG, hY⟩ := wk
    rcases bind_some f2 with ⟨ys, s2, f3, f4⟩ | ⟨x, f3, rfl⟩
    · obtain ⟨ys', f5, e5⟩ := calm_of f3
      cases e5
      obtain ⟨rfl, rfl⟩ := ok_of f4
      have nD := r1.notin hD
      refine dc_it w (Pv := DcInv G W D ρ1 H1 env σ (dcGo (heldD d xs) (dcF O own tg cs pk p env)) xs (some (.ok ys, st'))) ?_ ?_ ?_ ?_
      · exact ⟨ρ1, s1, [], [], r1.more hD, step_new hD, mv_more hD, nD, upd_same, rfl, (q2.step sp1).mv (mv_more hD), by rw [List.drop_zero]; exact f5⟩
      · intro i H2 hi iv
        obtain ⟨ρ2, s3, acc, vs, a1, a2, a3, a4, a5, a6, a7, a8⟩ := iv
        refine hG ⟨ρ2.l, D :: ρ2.z⟩ H2 s3 a3 a1 ?_
        cases e : xs.drop i with
        | nil =>
          rw [e] at a8
          exact (hold_of a8).1
        | cons x r =>
          rw [e] at a8
          exact (hold_of a8).1
      · intro i x H2 H3 hi iv y
        obtain ⟨ρ2, s3, acc, vs, a1, a2, a3, a4, a5, a6, a7, a8⟩ := iv
        have ed : xs.drop i = xs[i] :: xs.drop (i + 1) := List.drop_eq_getElem_cons hi
        rw [ed] at a8
        obtain ⟨b1, b2⟩ := hold_of (show M.hold (heldD d xs) ((dcF O own tg cs pk p env xs[i]).bind fun o => match o with
          | none => dcGo (heldD d xs) (dcF O own tg cs pk p env) (xs.drop (i + 1)) acc
          | some y => if acc.length < 16777216 then dcGo (heldD d xs) (dcF O own tg cs pk p env) (xs.drop (i + 1)) (setD y.1 y.2 acc) else M.no) s3 = some (.ok ys, st') from a8)
        obtain ⟨y0, c1, c2, c3, c4⟩ := hY i _ _ s3 x H3 hi a3 a1 b1 y
        rw [List.getElem?_eq_getElem hi] at c1
        cases c1
        have k1 := a7.step c2
        have keep3 : H3 D = some (.dK vs) := (c2.keep D _ a5 (a1.zs D (by simp)).1).inz (by simp)
        have l3 := a6.step c2
        cases ep : put1 tg xs[i] (wipeE env own) with
        | none =>
          unfold dcF at b2
          rw [ep] at b2
          cases b2
        | some env' =>
          have b3 : ((evCs O cs env').bind fun b => (match b with
            | false => M.ok none
            | true => (evE O pk env').bind fun y => (evE O p env').bind fun z => M.lift ((keyOf y).map fun k => some (k, z))).bind fun o => match o with
              | none => dcGo (heldD d xs) (dcF O own tg cs pk p env) (xs.drop (i + 1)) acc
              | some y => if acc.length < 16777216 then dcGo (heldD d xs) (dcF O own tg cs pk p env) (xs.drop (i + 1)) (setD y.1 y.2 acc) else M.no) s3 = some (.ok ys, st') := by
            rw [← M.bind_assoc]
            unfold dcF at b2
            rw [ep] at b2
            exact b2
          refine ⟨_, s3, wipeE env own, xs[i], env', c3, EnvR.wiped hW k1 own, c4, ep, fun ρ4 H4 σ4 s4 r4 e4 sm => ⟨?_, ?_⟩⟩
          · rw [sm.wipe hsl]
            exact (Same.wipe (sl := own) ⟨wipe_length _ _, fun i h => wipe_out h⟩ fun i h => h)
          · obtain ⟨l4, rfl⟩ := step_of s4
            rcases bind_some b3 with ⟨b, s5, d1, d2⟩ | ⟨z, _, d2⟩
            · refine ⟨_, s3, env', .ok b, s5, r4, e4, d1, fun ρ5 H5 b' st5 r5 eb => ?_⟩
              cases eb
              obtain ⟨l5, rfl⟩ := step_of st5
              have up5 := c2.trans (s4.trans st5)
              have sl5 : Step ρ2 ⟨l5, ρ2.z⟩ H2 H5 := step_less up5
              have keep5 : H5 D = some (.dK vs) := (up5.keep D _ a5 (a1.zs D (by simp)).1).inz (by simp)
              have mv5 : Mv ρ1 ⟨l5, D :: ρ2.z⟩ H1 H5 := a3.step up5
              have nD5 : D ∉ (⟨l5, ρ2.z⟩ : Lo) := sl5.notin a5 a4
              cases b with
              | false =>
                rw [if_neg Bool.false_ne_true]
                exact ⟨⟨l5, ρ2.z⟩, s5, acc, vs, r5, a2.trans sl5, mv5, nD5, keep5, a6.step up5, a7.step up5, d2⟩
              | true =>
                rw [if_pos rfl]
                have e5 := e4.step st5
                let fin : Key × Mp.D → M (List (Key × Mp.D)) := fun y => if acc.length < 16777216 then dcGo (heldD d xs) (dcF O own tg cs pk p env) (xs.drop (i + 1)) (setD y.1 y.2 acc) else M.no
                have d3 : ((evE O pk env').bind fun y => (evE O p env').bind fun z => (M.lift ((keyOf y).map fun k => (k, z))).bind fin) s5 = some (.ok ys, st') := by
                  have d4 : (((evE O pk env').bind fun y => (evE O p env').bind fun z => M.lift ((keyOf y).map fun k => some (k, z))).bind fun o => match o with
                    | none => dcGo (heldD d xs) (dcF O own tg cs pk p env) (xs.drop (i + 1)) acc
                    | some y => if acc.length < 16777216 then dcGo (heldD d xs) (dcF O own tg cs pk p env) (xs.drop (i + 1)) (setD y.1 y.2 acc) else M.no) s5 = some (.ok ys, st') := d2
                  rw [M.bind_assoc] at d4
                  refine Eq.trans (bind_congr fun y s _ => ?_) d4
                  rw [M.bind_assoc]
                  refine bind_congr fun z s _ => ?_
                  cases keyOf y <;> rfl
                rcases bind_some d3 with ⟨yk, s6, g1, g2⟩ | ⟨z, _, g2⟩
                · refine ⟨_, s5, env', .ok yk, s6, r5, e5, g1, fun ρ6 H6 vk st6 r6 rpk => ?_⟩
                  obtain ⟨l6, rfl⟩ := step_of st6
                  have up6 := up5.trans st6
                  have e6 := e5.step st6
                  rcases bind_some g2 with ⟨y, s7, g3, g4⟩ | ⟨z, _, g4⟩
                  · refine ⟨_, s6, env', .ok y, s7, r6, e6, g3, fun ρ7 H7 v st7 r7 rp => ?_⟩
                    obtain ⟨l7, rfl⟩ := step_of st7
                    have up7 := up6.trans st7
                    have sl7 : Step ρ2 ⟨l7, ρ2.z⟩ H2 H7 := step_less up7
                    have keep7 : H7 D = some (.dK vs) := (up7.keep D _ a5 (a1.zs D (by simp)).1).inz (by simp)
                    have hz7 : D ∈ (⟨l7, D :: ρ2.z⟩ : Lo).z := by simp
                    rcases bind_some g4 with ⟨kd, s8, g5, g6⟩ | ⟨z, g5, _⟩
                    · obtain ⟨kd', g7, g8, rfl⟩ := lift_of g5
                      cases g8
                      obtain ⟨kk, g9, rfl⟩ := Option.map_eq_some_iff.mp g7
                      have hk := keyOf_ok rpk g9
                      have g6 : (if acc.length < 16777216 then dcGo (heldD d xs) (dcF O own tg cs pk p env) (xs.drop (i + 1)) (setD kk y acc) else M.no) _ = some (R.ok ys, st') := g6
                      split at g6
                      · rename_i hlen
                        have hvs := a6.length
                        refine ⟨vs, kk, hk, keep7, line_lt (by rw [← hvs]; exact hlen), ⟨l7, ρ2.z⟩, _, setD kk y acc, putK vs kk v, r7.setz hz7, ?_, ?_, sl7.notin a5 a4, upd_same, ?_, ((a7.step up7).mv (mv_z hz7)), g6⟩
                        · have t1 := a2.trans sl7
                          exact ⟨t1.ext, t1.z, t1.new, fun a o h n => by rw [upd_ne (ne_of_none h hD)]; exact t1.keep a o h n⟩
                        · refine ⟨fun h => (step_less up7).at (a2.at h), fun {a o} h n => ?_⟩
                          obtain ⟨n2, h2⟩ := (a3.step up7).out h n
                          exact ⟨n2, by rw [upd_ne (ne_of_none h hD)]; exact h2⟩
                        · exact ((a6.step up7).mv (mv_z hz7)).put (rp.mv (mv_z hz7))
                      · cases g6
                    · obtain ⟨_, _, g8, _⟩ := lift_of g5
                      cases g8
                  · cases g4
                · cases g2
            · cases d2
      · intro H2 iv
        obtain ⟨ρ2, s3, acc, vs, a1, a2, a3, a4, a5, a6, a7, a8⟩ := iv
        rw [List.drop_length] at a8
        obtain ⟨_, b2⟩ := hold_of a8
        cases b2
        have t1 := sp1.trans a2
        have t2 : Step ρ ρ2 H (cutH H2 D) := ⟨t1.ext, t1.z, t1.new, fun a o h n => by
          have hne : a ≠ D := fun q => by
            obtain ⟨u, this⟩ := (sp1.keep a o h n).there
            rw [q, hD] at this
            cases this
          rw [cut_ne hne]
          exact t1.keep a o h n⟩
        have fin := q4 ρ2 (cutH H2 D) D (.dK vs) t2 (a1.cut a4) cut_at ⟨vs, rfl, a6.mv mv_cut⟩
        rw [upd_cut a5] at fin
        exact fin
    · obtain ⟨ys', _, e5⟩ := calm_of f3
      cases e5
  · exact ⟨ρ, st, env, .ex x, st', q1, q2, f1, q4⟩
/-- what a for over a value walks -/
theorem pi_val {tg e : PySem.Expr} {a : PX} (hK : X.K = G.K) (ha : PE X e (tE G W O a)) : PI X tg e (tI G W O (.val a)) := by
  refine ⟨fun pins s σ H R I q => ?_⟩
  obtain ⟨ρ, st, env, r, st', q1, q2, q3, q4⟩ := q
  rcases bind_some (show (evE O a env).bind (fun x => onSt fun st => (itemsOf st x).map fun xs => (x, xs)) st = some (r, st') from q3) with ⟨x, s1, f1, f2⟩ | ⟨x, f1, rfl⟩
  · obtain ⟨w, z1, rfl, rfl⟩ := onSt_of f2
    obtain ⟨xs, z2, rfl⟩ := Option.map_eq_some_iff.mp z1
    have lists : lstOf st' x = some xs → wpAny (model X.prog X.w) X.A (eval e X.env) (fun v s1 => wpAny (model X.prog X.w) X.A (pyIter v) (PIE X pins σ tg R) X.xe s1) X.xe s := fun hl => by
      refine (pi_list ha).run pins s σ H R I ⟨ρ, st, env, .ok x, st', q1, q2, f1, fun ρ' H' v s r rp => ?_⟩
      obtain ⟨b, vs, rfl, h1, h2⟩ := r.lst rp hl
      refine ⟨b, rfl, ⟨vs, by rw [hK]; exact h1⟩, q4 ρ' H' _ s r ?_⟩
      rw [hK]
      exact walk_l rp hl
    cases x with
    | str z =>
      cases z2
      refine (pi_str ha).run pins s σ H R I ⟨ρ, st, env, .ok (.str _), st', q1, q2, f1, fun ρ' H' v s r rp => ⟨_, rp, q4 ρ' H' _ s r walk_s⟩⟩
    | dct kvs =>
      cases z2
      refine (pi_keys (pe_lockD ha)).run pins s σ H R I ⟨ρ, st, env, .ok (.dct _), st', q1, q2, f1, fun ρ' H' v s r rp => ?_⟩
      exact lock_rd (Q := fun x H1 => ∃ d o, x = V.ref d ∧ ((∃ kvs, H1 d = some (.frz o (.dK kvs)) ∧ R (Itk d o kvs) H1) ∨ ∃ kvs, H1 d = some (.frz o (.dT kvs)) ∧ R (Itkt d o kvs) H1)) r rp fun H2 d kvs' od ev n s2 r2 h1 h2 => ⟨d, od, ev, .inl ⟨kvs', h1, q4 ρ' H2 _ (s.trans s2) r2 (walk_k h1 n h2 (.dct kvs) fun _ => rfl)⟩⟩
    | tup ys =>
      cases z2
      refine (pi_tup ha).run pins s σ H R I ⟨ρ, st, env, .ok (.tup _), st', q1, q2, f1, fun ρ' H' v s r rp => ?_⟩
      obtain ⟨b, vs, rfl, h1, h2⟩ := rp
      have h3 := h1.sq
      rw [← hK] at h3
      refine ⟨b, rfl, ⟨vs, h3⟩, q4 ρ' H' _ s r ?_⟩
      rw [hK]
      exact walk_t h1 h2 (.tup _) fun _ => rfl
    | _ => exact lists z2
  · exact (pi_list ha).run pins s σ H R I ⟨ρ, st, env, .ex x, st', q1, q2, f1, q4⟩
theorem pi_itemsG {p q : Pos} {tpos : Pos} {kk : Nat} {elts : List PySem.Expr} {e : PySem.Expr} {a : PX} (ha : PE X e (tE G W O a)) (hb : baseB e = true) (hl : oneLine p q = true) : PI X (.Tuple elts kk tpos) (.Call (.Attribute e "items" p) [] [] q) (tI G W O (.items a)) := by
  refine PI_imp (pi_items (pe_lockD ha) (base_of hb) hl) fun σ H R z => ?_
  obtain ⟨ρ, st, env, r, st', q1, q2, q3, q4⟩ := z
  rcases bind_some (show (evE O a env).bind (fun x => onSt fun _ => itemsD x) st = some (r, st') from q3) with ⟨x, s1, f1, f2⟩ | ⟨x, f1, rfl⟩
  · obtain ⟨w, z1, rfl, rfl⟩ := onSt_of f2
    cases x with
    | dct kvs =>
      cases z1
      refine ⟨ρ, st, env, .ok (.dct _), st', q1, q2, f1, fun ρ' H' v s r rp => ?_⟩
      exact lock_rd (Q := fun x H1 => ∃ d o kvs, x = V.ref d ∧ H1 d = some (.frz o (.dK kvs)) ∧ R (Iti d o kvs) H1) r rp fun H2 d kvs' od ev n s2 r2 h1 h2 => ⟨d, od, kvs', ev, h1, q4 ρ' H2 _ (s.trans s2) r2 (walk_p h1 n h2)⟩
    | _ => cases z1
  · exact ⟨ρ, st, env, .ex x, st', q1, q2, f1, q4⟩
theorem pi_enumG {x : Str} {p pos tpos : Pos} {kk : Nat} {elts : List PySem.Expr} {e : PySem.Expr} {a : PX} (hK : X.K = G.K) (hg : Gl X "enumerate") (hm : X.mg "enumerate" = none) (ha : PE X e (tE G W O a)) (hp : plainE e = true) : PI X (.Tuple elts kk tpos) (.Call (.Name "enumerate" p) [e] [] pos) (tI G W O (.enum a)) := by
  have hs := plain_star hp [] X.env
  refine PI_imp (pi_enum hg hm (pa_cons ha pa_nil hs) hs) fun σ H R q => ?_
  obtain ⟨ρ, st, env, r, st', q1, q2, q3, q4⟩ := q
  rcases bind_some (show (evE O a env).bind (fun x => onSt fun st => if unRef x = true then (lstOf st x).map fun xs => (D.non, enumD 0 xs) else none) st = some (r, st') from q3) with ⟨x, s1, f1, f2⟩ | ⟨x, f1, rfl⟩
  · obtain ⟨w, z1, rfl, rfl⟩ := onSt_of f2
    split at z1
    · rename_i hu
      obtain ⟨xs, z2, rfl⟩ := Option.map_eq_some_iff.mp z1
      refine ⟨ρ, st, env, .ok x, st', q1, q2, f1, fun ρ' H' v s r rp => ?_⟩
      obtain ⟨b, vs, rfl, h1, h2⟩ := unref_lst hu rp z2
      have h3 := h1.sq
      rw [← hK] at h3
      refine ⟨b, vs, rfl, h3, q4 ρ' H' _ s r ?_⟩
      rw [hK]
      exact walk_e h1 h2
    · cases z1
  · exact ⟨ρ, st, env, .ex x, st', q1, q2, f1, q4⟩
theorem pi_zipG {p pos tpos : Pos} {kk : Nat} {elts : List PySem.Expr} {e e' : PySem.Expr} {a b : PX} (hK : X.K = G.K) (hg : Gl X "zip") (hm : X.mg "zip" = none) (ha : PE X e (tE G W O a)) (hp : plainE e = true) (hb : PE X e' (tE G W O b)) (hp' : plainE e' = true) : PI X (.Tuple elts kk tpos) (.Call (.Name "zip" p) [e, e'] [] pos) (tI G W O (.zip a b)) := by
  have hs := plain_star hp [e'] X.env
  have hs' := plain_star hp' [] X.env
  refine PI_imp (RZ.pi_zipA hg hm (pa_cons ha (pa_cons hb pa_nil hs') hs) hs (by rw [hs']; rfl)) fun σ H R q => ?_
  obtain ⟨ρ, st, env, r, st', q1, q2, q3, q4⟩ := q
  rcases bind_some (show (evE O a env).bind (fun x => (evE O b env).bind fun y => onSt fun st => if unRef x = true ∧ unRef y = true then (match x with
      | .tup xs => (match y with
        | .tup ys => some (D.non, zipD xs ys)
        | _ => none)
      | x => (lstOf st x).bind fun xs => (lstOf st y).map fun ys => (D.non, zipD xs ys)) else none) st = some (r, st') from q3) with ⟨x, s1, f1, f2⟩ | ⟨x, f1, rfl⟩
  · refine ⟨ρ, st, env, .ok x, s1, q1, q2, f1, fun ρ1 H1 v sp1 r1 rp1 => ?_⟩
    rcases bind_some f2 with ⟨y, s2, f3, f4⟩ | ⟨y, f3, rfl⟩
    · refine ⟨ρ1, s1, env, .ok y, s2, r1, q2.step sp1, f3, fun ρ2 H2 u sp2 r2 rp2 => ?_⟩
      obtain ⟨w, z1, rfl, rfl⟩ := onSt_of f4
      have rp1 := rp1.step sp2
      split at z1
      · rename_i hu
        have lists : ((lstOf st' x).bind fun xs => (lstOf st' y).map fun ys => (D.non, zipD xs ys)) = some w → ∃ a b xs ys, [v, u] = [V.ref a, .ref b] ∧ ((SqL X.K H2 a xs ∧ SqL X.K H2 b ys ∧ R (Itz X.K a b) H2) ∨ (SqT X.K H2 a xs ∧ SqT X.K H2 b ys ∧ R (RZ.ItzT X.K a b) H2)) := fun hz => by
          obtain ⟨xs, z2, z3⟩ := Option.bind_eq_some_iff.mp hz
          obtain ⟨ys, z4, rfl⟩ := Option.map_eq_some_iff.mp z3
          obtain ⟨c, vs, rfl, h1, h2⟩ := unref_lst hu.1 rp1 z2
          obtain ⟨e, us, rfl, h3, h4⟩ := unref_lst hu.2 rp2 z4
          refine ⟨c, e, vs, us, rfl, .inl ⟨by rw [hK]; exact h1.sq, by rw [hK]; exact h3.sq, q4 ρ2 H2 _ (sp1.trans sp2) r2 ?_⟩⟩
          rw [hK]
          exact walk_z h1 h2 h3 h4
        cases x with
        | tup xs =>
          cases y with
          | tup ys =>
            cases z1
            obtain ⟨c, vs, rfl, h1, h2⟩ := rp1
            obtain ⟨e, us, rfl, h3, h4⟩ := rp2
            refine ⟨c, e, vs, us, rfl, .inr ⟨by rw [hK]; exact h1.sq, by rw [hK]; exact h3.sq, q4 ρ2 H2 _ (sp1.trans sp2) r2 ?_⟩⟩
            rw [hK]
            exact walk_zt h1 h2 h3 h4
          | _ => cases z1
        | _ => exact lists z1
      · cases z1
    · exact ⟨ρ1, s1, env, .ex y, st', r1, q2.step sp1, f3, fun ρ' H' dd fs' s' => q4 ρ' H' dd fs' (sp1.trans s')⟩
  · exact ⟨ρ, st, env, .ex x, st', q1, q2, f1, q4⟩
theorem pi_rng1 {p pos : Pos} {tg e : PySem.Expr} {a : PX} (hg : Gl X "range") (hm : X.mg "range" = none) (ha : PE X e (tE G W O a)) (hp : plainE e = true) : PI X tg (.Call (.Name "range" p) [e] [] pos) (tI G W O (.rng [a])) := by
  have hs := plain_star hp [] X.env
  refine PI_imp (pi_range1 hg hm (pa_cons ha pa_nil hs) hs) fun σ H R q => ?_
  obtain ⟨ρ, st, env, r, st', q1, q2, q3, q4⟩ := q
  rcases bind_some (show (evEs O [a] env).bind (fun xs => onSt fun _ => (rngD xs).map fun ys => (D.non, ys)) st = some (r, st') from q3) with ⟨xs, s1, f1, f2⟩ | ⟨x, f1, rfl⟩
  · rcases bind_some (show (evE O a env).bind (fun x => (M.ok []).bind fun xs => M.ok (x :: xs)) st = some (.ok xs, s1) from f1) with ⟨x, s2, f3, f4⟩ | ⟨x, _, f4⟩
    · cases f4
      refine ⟨ρ, st, env, .ok x, s1, q1, q2, f3, fun ρ' H' v s r rp => ?_⟩
      obtain ⟨w, z1, rfl, rfl⟩ := onSt_of f2
      obtain ⟨ys, z2, rfl⟩ := Option.map_eq_some_iff.mp z1
      cases x with
      | int n =>
        have z3 : (if -(2 ^ 62) ≤ n ∧ n < 2 ^ 62 then some ((List.range n.toNat).map fun i => D.int (0 + (i : Nat))) else none) = some ys := z2
        split at z3
        · rename_i hn
          cases z3
          cases rp
          exact ⟨n, rfl, hn.1, hn.2, q4 ρ' H' _ s r walk_r⟩
        · cases z3
      | _ => cases z2
    · cases f4
  · rcases bind_some (show (evE O a env).bind (fun x => (M.ok []).bind fun xs => M.ok (x :: xs)) st = some (.ex x, st') from f1) with ⟨y, s2, f3, f4⟩ | ⟨y, f3, f4⟩
    · cases f4
    · cases f4
      exact ⟨ρ, st, env, .ex x, st', q1, q2, f3, q4⟩
theorem pi_rng2 {p pos : Pos} {tg e e' : PySem.Expr} {a b : PX} (hg : Gl X "range") (hm : X.mg "range" = none) (ha : PE X e (tE G W O a)) (hp : plainE e = true) (hb : PE X e' (tE G W O b)) (hp' : plainE e' = true) : PI X tg (.Call (.Name "range" p) [e, e'] [] pos) (tI G W O (.rng [a, b])) := by
  have hs' := plain_star hp' [] X.env
  have hs := plain_star hp [e'] X.env
  have hs2 : starEach [e, e'] X.env = [(false, eval e X.env), (false, eval e' X.env)] := by rw [hs, hs']; rfl
  refine PI_imp (pi_range2 hg hm (pa_cons ha (pa_cons hb pa_nil hs') hs) hs2 hs') fun σ H R q => ?_
  obtain ⟨ρ, st, env, r, st', q1, q2, q3, q4⟩ := q
  rcases bind_some (show (evEs O [a, b] env).bind (fun xs => onSt fun _ => (rngD xs).map fun ys => (D.non, ys)) st = some (r, st') from q3) with ⟨xs, s1, f1, f2⟩ | ⟨x, f1, rfl⟩
  · rcases bind_some (show (evE O a env).bind (fun x => ((evE O b env).bind fun x => (M.ok []).bind fun xs => M.ok (x :: xs)).bind fun xs => M.ok (x :: xs)) st = some (.ok xs, s1) from f1) with ⟨x, s2, f3, f4⟩ | ⟨x, _, f4⟩
    · refine ⟨ρ, st, env, .ok x, s2, q1, q2, f3, fun ρ1 H1 v sp1 r1 rp1 => ?_⟩
      rcases bind_some f4 with ⟨ys, s3, f5, f6⟩ | ⟨x, _, f6⟩
      · cases f6
        rcases bind_some f5 with ⟨y, s4, f7, f8⟩ | ⟨x, _, f8⟩
        · cases f8
          refine ⟨ρ1, s2, env, .ok y, s1, r1, q2.step sp1, f7, fun ρ2 H2 u sp2 r2 rp2 => ?_⟩
          obtain ⟨w, z1, rfl, rfl⟩ := onSt_of f2
          obtain ⟨zs, z2, ez⟩ := Option.map_eq_some_iff.mp z1
          subst ez
          cases x with
          | int n =>
            cases y with
            | int m =>
              have z3 : (if -(2 ^ 62) ≤ n ∧ n < 2 ^ 62 ∧ -(2 ^ 62) ≤ m ∧ m < 2 ^ 62 then some ((List.range (m - n).toNat).map fun i => D.int (n + (i : Nat))) else none) = some zs := z2
              split at z3
              · rename_i hn
                cases z3
                cases rp1
                cases rp2
                exact ⟨n, m, rfl, hn, q4 ρ2 H2 _ (sp1.trans sp2) r2 walk_r⟩
              · cases z3
            | _ => cases z2
          | _ => cases z2
        · cases f8
      · cases f6
    · cases f4
  · rcases bind_some (show (evE O a env).bind (fun x => ((evE O b env).bind fun x => (M.ok []).bind fun xs => M.ok (x :: xs)).bind fun xs => M.ok (x :: xs)) st = some (.ex x, st') from f1) with ⟨y, s2, f3, f4⟩ | ⟨y, f3, f4⟩
    · refine ⟨ρ, st, env, .ok y, s2, q1, q2, f3, fun ρ1 H1 v sp1 r1 rp1 => ?_⟩
      rcases bind_some f4 with ⟨ys, s3, f5, f6⟩ | ⟨z, f5, f6⟩
      · cases f6
      · cases f6
        rcases bind_some f5 with ⟨ys, s3, f7, f8⟩ | ⟨z, f7, f8⟩
        · cases f8
        · cases f8
          exact ⟨ρ1, s2, env, .ex x, st', r1, q2.step sp1, f7, fun ρ' H' dd fs' s' => q4 ρ' H' dd fs' (sp1.trans s')⟩
    · cases f4
      exact ⟨ρ, st, env, .ex x, st', q1, q2, f3, q4⟩
end
end Mp
end
section
set_option Elab.async false
set_option linter.all false
set_option maxRecDepth 100000
set_option maxHeartbeats 2000000
/-! Mp: what the evaluator says of an expression holds of the text. -/
namespace Mp
open PySem PySem.Spec PyProof.Rows L2
section
variable {G : Cfg} {P : Prg} {k : Nat}
theorem pw_bool {X : Cx} {op : BoolOp} {x y : PySem.Expr} {es : List PySem.Expr} {pos : Pos} {t : TT} (h : PT X (.BoolOp op (x :: y :: es) pos) t) : PW X (.BoolOp op (x :: y :: es) pos) t := by
  refine ⟨fun wh pins s σ H Q I q => ?_⟩
  have := h.run pins s σ H Q I q
  cases op <;> exact this
mutual
theorem sE : ∀ (p : PX) {S : Sc} {X : Cx} {W : Cw} {ex : Option Ex} {e : PySem.Expr}, Gd G P k S X W ex → okE S p e = true → PE X e (tE G W (orcX P (callF P k) ex) p) ∧ PT X e (tT G W (orcX P (callF P k) ex) p)
  | .var i, S, X, W, ex, e, g, h => by
    cases e with
    | Name x pos =>
      obtain ⟨h1, h2⟩ := band h
      obtain ⟨s1, s2, s3⟩ := slot_of g.toGood h1
      have hp : PE X (.Name x pos) (tE G W (orcX P (callF P k) ex) (.var i)) := PE_imp (pe_var s1 (vis_of g.toGood h2) s2 s3) fun σ H Q q => by
        obtain ⟨ρ, st, env, r, st', q1, q2, q3, q4⟩ := q
        cases e1 : env[i]? with
        | none =>
          have q5 : (match env[i]? with
            | some (some d) => M.ok d
            | _ => M.no) st = some (r, st') := q3
          rw [e1] at q5
          cases q5
        | some o =>
          have q5 : (match env[i]? with
            | some (some d) => M.ok d
            | _ => M.no) st = some (r, st') := q3
          rw [e1] at q5
          cases o with
          | none => cases q5
          | some d =>
            obtain ⟨v, z1, z2⟩ := q2.at_ i d e1
            exact ⟨v, z1, tG_ret q5 q4 q1 z2⟩
      exact ⟨hp, PT_val g.K hp fun _ => rfl⟩
    | _ => cases h
  | .cst d, S, X, W, ex, e, g, h => by
    cases e with
    | Constant c j pos =>
      have hp := const_ok (G := G) (X := X) (W := W) (O := orcX P (callF P k) ex) (j := j) (pos := pos) h
      exact ⟨hp, PT_val g.K hp fun _ => rfl⟩
    | _ => cases h
  | .glob x, S, X, W, ex, e, g, h => by
    cases e with
    | Name y pos =>
      obtain ⟨h1, h2⟩ := band h
      obtain ⟨h3, h4⟩ := band h1
      have e := of_decide_eq_true h3
      subst e
      have hp := glob_ok (ex := ex) (W := W) (pos := pos) g.toGood h4 h2
      exact ⟨hp, PT_val g.K hp fun _ => rfl⟩
    | _ => cases h
  | .bop o a b, S, X, W, ex, e, g, h => by
    cases e with
    | BinOp x op y pos =>
      obtain ⟨h1, h2⟩ := band h
      obtain ⟨h3, h4⟩ := band h1
      have e := of_decide_eq_true h3
      subst e
      have ha := (sE a g h4).1
      have hb := (sE b g h2).1
      have hp : PE X (.BinOp x (bopOp o) y pos) (tE G W (orcX P (callF P k) ex) (.bop o a b)) := PE_imp (pe_op (op_bop o) ha hb) fun σ H Q q => by
        obtain ⟨ρ, st, env, r, st', q1, q2, q3, q4⟩ := q
        refine tG_bind q1 q2 q3 q4 fun x s1 ρ1 H1 v hm f1 s r1 rp e1 p1 => ?_
        refine tG_bind r1 e1 f1 p1 fun y s2 ρ2 H2 u hm2 f2 s' r2 rp2 e2 p2 => ?_
        obtain ⟨d, z1, z2⟩ := post_on f2 p2
        exact ⟨ρ2, s2, x, y, d, r2, rp.step s', rp2, z1, z2⟩
      exact ⟨hp, PT_val g.K hp fun _ => rfl⟩
    | _ => cases h
  | .cmp o a b, S, X, W, ex, e, g, h => by
    cases e with
    | Compare x ops ys pos =>
      cases ops with
      | nil => cases h
      | cons op t =>
        cases t with
        | cons _ _ => cases h
        | nil =>
          cases ys with
          | nil => cases h
          | cons y t =>
            cases t with
            | cons _ _ => cases h
            | nil =>
              obtain ⟨h1, h2⟩ := band h
              obtain ⟨h3, h4⟩ := band h1
              have e := of_decide_eq_true h3
              subst e
              have ha := (sE a g h4).1
              have hb := (sE b g h2).1
              have hm := plain_marks (okE_plain h2) (cmpOp o)
              have ho := op_cmp (G := G) g.hu g.K g.w o
              refine ⟨PE_imp (pe_cmpR ho ha hb hm) fun σ H Q q => ?_, PT_imp (pt_cmpR ho ha hb hm) fun σ H Q q => ?_⟩
              · obtain ⟨ρ, st, env, r, st', q1, q2, q3, q4⟩ := q
                refine tG_bind q1 q2 q3 q4 fun x s1 ρ1 H1 v hm f1 s r1 rp e1 p1 => ?_
                refine tG_bind r1 e1 f1 p1 fun y s2 ρ2 H2 u hm2 f2 s' r2 rp2 e2 p2 => ?_
                obtain ⟨d, z1, z2⟩ := post_on f2 p2
                exact ⟨ρ2, s2, x, y, d, r2, rp.step s', rp2, z1, z2⟩
              · obtain ⟨ρ, st, env, r, st', q1, q2, q3, q4⟩ := q
                have q3 : (evE (orcX P (callF P k) ex) a env).bind (fun x => ((evE (orcX P (callF P k) ex) b env).bind fun y => (onSt fun st => (cmpD o st x y).map D.bl)).bind fun z => onSt fun st => truth st z) st = some (r, st') := by
                  rw [← M.bind_assoc]
                  exact q3
                refine tG_bind q1 q2 q3 q4 fun x s1 ρ1 H1 v hm f1 s r1 rp e1 p1 => ?_
                rw [M.bind_assoc] at f1
                refine tG_bind r1 e1 f1 p1 fun y s2 ρ2 H2 u hm2 f2 s' r2 rp2 e2 p2 => ?_
                rcases bind_some f2 with ⟨z, s3, f3, f4⟩ | ⟨z, f3, _⟩
                · obtain ⟨d, f5, f6, rfl⟩ := onSt_of f3
                  cases f6
                  obtain ⟨b, f7, rfl⟩ := Option.map_eq_some_iff.mp f5
                  obtain ⟨b', f8, rfl, rfl⟩ := onSt_of f4
                  cases f8
                  exact ⟨ρ2, _, x, y, .bl b, r2, rp.step s', rp2, f5, fun ρ' H' w st1 r3 rw' => ⟨b, rw', p2 ρ' H' b st1 r3 rfl⟩⟩
                · obtain ⟨d, _, f6, _⟩ := onSt_of f3
                  cases f6
    | _ => cases h
  | .and_ a b, S, X, W, ex, e, g, h => by
    cases e with
    | BoolOp op vs pos =>
      cases op with
      | Or => cases vs with
        | nil => cases h
        | cons x t => cases t <;> cases h
      | And => cases vs with
        | nil => cases h
        | cons x t => cases t with
          | nil => cases h
          | cons y t =>
              obtain ⟨h1, h2⟩ := band h
              obtain ⟨a1, a2⟩ := sE a g h1
              have hb := sE b g h2
              have hb1 : PE X (.BoolOp .And (y :: t) pos) (tE G W (orcX P (callF P k) ex) b) ∧ PW X (.BoolOp .And (y :: t) pos) (tT G W (orcX P (callF P k) ex) b) := by
                cases t with
                | nil => exact ⟨pe_one hb.1, pw_and1 hb.2⟩
                | cons z zs => exact ⟨hb.1, pw_bool hb.2⟩
              obtain ⟨b1, b2⟩ := hb1
              refine ⟨PE_imp (pe_andT a1 b1) fun σ H Q q => ?_, PT_imp (PW.pt (pw_and a2 b2)) fun σ H Q q => ?_⟩
              · obtain ⟨ρ, st, env, r, st', q1, q2, q3, q4⟩ := q
                refine tG_bind q1 q2 q3 q4 fun x s1 ρ1 H1 v hm f1 s r1 rp e1 p1 => ?_
                rcases bind_some f1 with ⟨c, s2, f2, f3⟩ | ⟨z, f2, _⟩
                · obtain ⟨c', f4, f5, rfl⟩ := onSt_of f2
                  cases f5
                  refine ⟨c, by rw [g.K]; exact truth_ok r1 rp f4, ?_⟩
                  cases c with
                  | true => exact ⟨ρ1, _, env, r, st', r1, e1, f3, p1⟩
                  | false => exact tG_ret f3 p1 r1 rp
                · obtain ⟨c', _, f5, _⟩ := onSt_of f2
                  cases f5
              · obtain ⟨ρ, st, env, r, st', q1, q2, q3, q4⟩ := q
                have q5 : (testM (orcX P (callF P k) ex) a env).bind (fun c => if c = true then testM (orcX P (callF P k) ex) b env else M.ok false) st = some (r, st') := by
                  rw [← q3]
                  exact and_test
                refine tG_bind q1 q2 q5 q4 fun c s1 ρ1 H1 v hm f1 s r1 rp e1 p1 => ?_
                have rp : c = v := rp
                subst rp
                cases c with
                | true => exact ⟨ρ1, _, env, r, st', r1, e1, f1, p1⟩
                | false => exact tG_ret f1 p1 r1 rfl
    | _ => cases h
  | .or_ a b, S, X, W, ex, e, g, h => by
    cases e with
    | BoolOp op vs pos =>
      cases op with
      | And => cases vs with
        | nil => cases h
        | cons x t => cases t <;> cases h
      | Or => cases vs with
        | nil => cases h
        | cons x t => cases t with
          | nil => cases h
          | cons y t =>
              obtain ⟨h1, h2⟩ := band h
              obtain ⟨a1, a2⟩ := sE a g h1
              have hb := sE b g h2
              have hb1 : PE X (.BoolOp .Or (y :: t) pos) (tE G W (orcX P (callF P k) ex) b) ∧ PW X (.BoolOp .Or (y :: t) pos) (tT G W (orcX P (callF P k) ex) b) := by
                cases t with
                | nil => exact ⟨pe_one hb.1, pw_or1 hb.2⟩
                | cons z zs => exact ⟨hb.1, pw_bool hb.2⟩
              obtain ⟨b1, b2⟩ := hb1
              refine ⟨PE_imp (pe_orT a1 b1) fun σ H Q q => ?_, PT_imp (PW.pt (pw_or a2 b2)) fun σ H Q q => ?_⟩
              · obtain ⟨ρ, st, env, r, st', q1, q2, q3, q4⟩ := q
                refine tG_bind q1 q2 q3 q4 fun x s1 ρ1 H1 v hm f1 s r1 rp e1 p1 => ?_
                rcases bind_some f1 with ⟨c, s2, f2, f3⟩ | ⟨z, f2, _⟩
                · obtain ⟨c', f4, f5, rfl⟩ := onSt_of f2
                  cases f5
                  refine ⟨c, by rw [g.K]; exact truth_ok r1 rp f4, ?_⟩
                  cases c with
                  | false => exact ⟨ρ1, _, env, r, st', r1, e1, f3, p1⟩
                  | true => exact tG_ret f3 p1 r1 rp
                · obtain ⟨c', _, f5, _⟩ := onSt_of f2
                  cases f5
              · obtain ⟨ρ, st, env, r, st', q1, q2, q3, q4⟩ := q
                have q5 : (testM (orcX P (callF P k) ex) a env).bind (fun c => if c = true then M.ok true else testM (orcX P (callF P k) ex) b env) st = some (r, st') := by
                  rw [← q3]
                  exact or_test
                refine tG_bind q1 q2 q5 q4 fun c s1 ρ1 H1 v hm f1 s r1 rp e1 p1 => ?_
                have rp : c = v := rp
                subst rp
                cases c with
                | false => exact ⟨ρ1, _, env, r, st', r1, e1, f1, p1⟩
                | true => exact tG_ret f1 p1 r1 rfl
    | _ => cases h
  | .not_ a, S, X, W, ex, e, g, h => by
    cases e with
    | UnaryOp op x pos =>
      cases op with
      | Not =>
        obtain ⟨a1, a2⟩ := sE a g (show okE S a x = true from h)
        refine ⟨PE_imp (pe_notT a1) fun σ H Q q => ?_, PT_imp (pt_not a2) fun σ H Q q => ?_⟩
        · obtain ⟨ρ, st, env, r, st', q1, q2, q3, q4⟩ := q
          refine tG_bind q1 q2 q3 q4 fun x s1 ρ1 H1 v hm f1 s r1 rp e1 p1 => ?_
          obtain ⟨d, f2, f3⟩ := post_on f1 p1
          obtain ⟨b, f4, rfl⟩ := Option.map_eq_some_iff.mp f2
          exact ⟨b, by rw [g.K]; exact truth_ok r1 rp f4, f3 ρ1 H1 _ Step.refl r1 rfl⟩
        · obtain ⟨ρ, st, env, r, st', q1, q2, q3, q4⟩ := q
          have q5 : (testM (orcX P (callF P k) ex) a env).bind (fun c => M.ok (!c)) st = some (r, st') := by
            rw [← q3]
            exact not_test
          refine tG_bind q1 q2 q5 q4 fun c s1 ρ1 H1 v hm f1 s r1 rp e1 p1 => ?_
          have rp : c = v := rp
          subst rp
          exact tG_ret f1 p1 r1 rfl
      | _ => cases h
    | _ => cases h
  | .neg a, S, X, W, ex, e, g, h => by
    cases e with
    | UnaryOp op x pos =>
      cases op with
      | USub =>
        have ha := (sE a g (show okE S a x = true from h)).1
        have hp : PE X (.UnaryOp .USub x pos) (tE G W (orcX P (callF P k) ex) (.neg a)) := PE_imp (pe_un un_neg ha) fun σ H Q q => by
          obtain ⟨ρ, st, env, r, st', q1, q2, q3, q4⟩ := q
          refine tG_bind q1 q2 q3 q4 fun x s1 ρ1 H1 v hm f1 s r1 rp e1 p1 => ?_
          obtain ⟨d, z1, z2⟩ := post_on f1 p1
          cases x with
          | int i =>
            cases z1
            cases rp
            exact ⟨i, rfl, z2 ρ1 H1 _ Step.refl r1 rfl⟩
          | _ => cases z1
        exact ⟨hp, PT_val g.K hp fun _ => rfl⟩
      | _ => cases h
    | _ => cases h
  | .ife c a b, S, X, W, ex, e, g, h => by
    cases e with
    | IfExp z x y pos =>
      obtain ⟨h1, h2⟩ := band h
      obtain ⟨h3, h4⟩ := band h1
      obtain ⟨c1, c2⟩ := sE c g h3
      obtain ⟨a1, a2⟩ := sE a g h4
      obtain ⟨b1, b2⟩ := sE b g h2
      refine ⟨PE_imp (pe_ifExp c2 a1 b1) fun σ H Q q => ?_, PT_imp (isTrue_ife c2 a2 b2) fun σ H Q q => ?_⟩
      · obtain ⟨ρ, st, env, r, st', q1, q2, q3, q4⟩ := q
        have q5 : (testM (orcX P (callF P k) ex) c env).bind (fun c => if c = true then evE (orcX P (callF P k) ex) a env else evE (orcX P (callF P k) ex) b env) st = some (r, st') := by
          rw [← q3]
          exact ife_val
        refine tG_bind q1 q2 q5 q4 fun c s1 ρ1 H1 v hm f1 s r1 rp e1 p1 => ?_
        have rp : c = v := rp
        subst rp
        cases c with
        | true => exact ⟨ρ1, _, env, r, st', r1, e1, f1, p1⟩
        | false => exact ⟨ρ1, _, env, r, st', r1, e1, f1, p1⟩
      · obtain ⟨ρ, st, env, r, st', q1, q2, q3, q4⟩ := q
        have q5 : (testM (orcX P (callF P k) ex) c env).bind (fun c => if c = true then testM (orcX P (callF P k) ex) a env else testM (orcX P (callF P k) ex) b env) st = some (r, st') := by
          rw [← q3]
          exact ife_test
        refine tG_bind q1 q2 q5 q4 fun c s1 ρ1 H1 v hm f1 s r1 rp e1 p1 => ?_
        have rp : c = v := rp
        subst rp
        cases c with
        | true => exact ⟨ρ1, _, env, r, st', r1, e1, f1, p1⟩
        | false => exact ⟨ρ1, _, env, r, st', r1, e1, f1, p1⟩
    | _ => cases h
  | .tup es, S, X, W, ex, e, g, h => by
    cases e with
    | Tuple xs j pos =>
      obtain ⟨h1, h2⟩ := band h
      have hp := tup_ok (j := j) (pos := pos) (sEs es g h1) (of_decide_eq_true h2)
      exact ⟨hp, PT_val g.K hp fun _ => rfl⟩
    | _ => cases h
  | .hole, S, X, W, ex, e, g, h => by
    have no : ∀ {σ H} {Q : VK}, tE G W (orcX P (callF P k) ex) .hole σ H Q → False := fun q => by
      obtain ⟨ρ, st, env, r, st', q1, q2, q3, q4⟩ := q
      cases q3
    refine ⟨⟨fun pins s σ H Q I q => (no q).elim⟩, ⟨fun pins s σ H Q I q => ?_⟩⟩
    obtain ⟨ρ, st, env, r, st', q1, q2, q3, q4⟩ := q
    cases q3
  | .val f, S, X, W, ex, e, g, h => by
    have hp : PE X e (tE G W (orcX P (callF P k) ex) (.val f)) := PE_imp (sF f g h) fun σ H Q q => tF_val q
    exact ⟨hp, PT_val g.K hp (okF_test h)⟩
  | .loc f, S, X, W, ex, e, g, h => by
    have hp : PE X e (tE G W (orcX P (callF P k) ex) (.loc f)) := PE_imp (sF f g h) fun σ H Q q => tF_loc q
    exact ⟨hp, PT_val g.K hp (okF_test h)⟩
  | .item a b, S, X, W, ex, e, g, h => by
    cases e with
    | Subscript x y pos =>
      obtain ⟨h1, h2⟩ := band h
      have ha := (sE a g h1).1
      have hb := (sE b g h2).1
      have hp : PE X (.Subscript x y pos) (tE G W (orcX P (callF P k) ex) (.item a b)) := PE_imp (pe_ix (ix_item (G := G) g.hu1 g.K g.w) ha hb (plain_ix (okE_plain h2))) fun σ H Q q => by
        obtain ⟨ρ, st, env, r, st', q1, q2, q3, q4⟩ := q
        refine tG_bind q1 q2 q3 q4 fun x s1 ρ1 H1 v hm f1 s r1 rp e1 p1 => ?_
        refine tG_bind r1 e1 f1 p1 fun y s2 ρ2 H2 u hm2 f2 s' r2 rp2 e2 p2 => ?_
        obtain ⟨d, z1, z2⟩ := post_on f2 p2
        exact ⟨ρ2, s2, x, y, d, r2, rp.step s', rp2, z1, z2⟩
      exact ⟨hp, PT_val g.K hp fun _ => rfl⟩
    | _ => cases h
  | .fld a f, S, X, W, ex, e, g, h => by
    cases e with
    | Attribute x f' pos =>
      obtain ⟨h1, h2⟩ := band h
      obtain ⟨h3, h4⟩ := band h1
      have e := of_decide_eq_true h3
      subst e
      have ha := (sE a g h4).1
      have hp : PE X (.Attribute x f pos) (tE G W (orcX P (callF P k) ex) (.fld a f)) := PE_imp (pe_fld ha (base_of h2)) fun σ H Q q => by
        obtain ⟨ρ, st, env, r, st', q1, q2, q3, q4⟩ := q
        refine tG_bind q1 q2 q3 q4 fun x s1 ρ1 H1 v hm f1 s r1 rp e1 p1 => ?_
        obtain ⟨d, z1, z2⟩ := post_on f1 p1
        obtain ⟨⟨C, fs⟩, z3, z4⟩ := Option.bind_eq_some_iff.mp z1
        have z4 : (if P.fld C f = true then getD' f fs else none) = some d := z4
        split at z4
        · rename_i hf
          obtain ⟨c1, c2⟩ := g.fx.fld C f hf
          obtain ⟨a, dx, fs', rfl, o1, o2⟩ := r1.obj rp z3
          obtain ⟨w, w1, w2⟩ := o2.look z4
          exact ⟨a, G.cA C, dx, fs', w, rfl, o1, by rw [g.K]; exact c1, by rw [g.K]; exact c2, w1, z2 ρ1 H1 w Step.refl r1 w2⟩
        · cases z4
      exact ⟨hp, PT_val g.K hp fun _ => rfl⟩
    | _ => cases h
  | .blt b a, S, X, W, ex, e, g, h => by
    cases e with
    | Call fn as ks pos =>
      cases fn with
      | Name x p =>
        cases as with
        | nil => cases h
        | cons y t => cases t with
          | cons _ _ => cases h
          | nil =>
            obtain ⟨h0, hcalm⟩ := band h
            obtain ⟨h1, h2⟩ := band h0
            have hk := noKw_of h2
            subst hk
            obtain ⟨h3, h4⟩ := band h1
            obtain ⟨h7, h5⟩ := band h3
            obtain ⟨h8, h6⟩ := band h5
            have e := of_decide_eq_true h7
            subst e
            have ha := (sE a g h4).1
            have pa : PA X [y] (tCons (tE G W (orcX P (callF P k) ex) a) tNil) := pa_cons ha pa_nil (plain_star (okE_plain h4) [] X.env)
            have fin : ∀ σ H Q, tE G W (orcX P (callF P k) ex) (.blt b a) σ H Q → tCB (rC G (bltD b)) (tCons (tE G W (orcX P (callF P k) ex) a) tNil) σ H Q := fun σ H Q q => by
              obtain ⟨ρ, st, env, r, st', q1, q2, q3, q4⟩ := q
              refine tG_bind q1 q2 q3 q4 fun x s1 ρ1 H1 v hm f1 s r1 rp e1 p1 => ?_
              obtain ⟨d, z1, z2⟩ := post_on f1 p1
              exact ⟨ρ1, s1, x, v, d, rfl, r1, rp, z1, z2⟩
            have hp : PE X (.Call (.Name (blName b) p) [y] [] pos) (tE G W (orcX P (callF P k) ex) (.blt b a)) := by
              have cr := cr_blt (G := G) (g.calm hcalm) g.K b
              have hg := glo_of g.toGood h8
              have hm := g.fx.blt _ h6
              have hs := plain_star (okE_plain h4) [] X.env
              cases b with
              | len => exact PE_imp (pe_callB (id := "len") cr hg hm (by decide +kernel) pa (he := hs)) fin
              | str => exact PE_imp (pe_callTy (T := "str") cr hg hm (by decide +kernel) pa (he := hs)) fin
              | int => exact PE_imp (pe_callTy (T := "int") cr hg hm (by decide +kernel) pa (he := hs)) fin
              | tuple => exact PE_imp (pe_callTy (T := "tuple") cr hg hm (by decide +kernel) pa (he := hs)) fin
              | all => exact PE_imp (pe_callB (id := "all") cr hg hm (by decide +kernel) pa (he := hs)) fin
              | any => exact PE_imp (pe_callB (id := "any") cr hg hm (by decide +kernel) pa (he := hs)) fin
            exact ⟨hp, PT_val g.K hp fun _ => rfl⟩
      | _ => cases h
    | _ => cases h

  | .chn o p a b c, S, X, W, ex, e, g, h => by
    cases e with
    | Compare x ops ys pos =>
      cases ops with
      | nil => cases h
      | cons op t => cases t with
        | nil => cases ys with
          | nil => cases h
          | cons y t => cases t with
            | nil => cases h
            | cons _ _ => cases h
        | cons op2 t => cases t with
          | cons _ _ => cases h
          | nil => cases ys with
            | nil => cases h
            | cons y t => cases t with
              | nil => cases h
              | cons z t => cases t with
                | cons _ _ => cases h
                | nil =>
                  obtain ⟨h1, h2⟩ := band h
                  obtain ⟨h3, h4⟩ := band h1
                  obtain ⟨h5, h6⟩ := band h3
                  obtain ⟨h7, h8⟩ := band h5
                  have e1 := of_decide_eq_true h7
                  have e2 := of_decide_eq_true h8
                  subst e1
                  subst e2
                  have ha := (sE a g h6).1
                  have hb := (sE b g h4).1
                  have hc := (sE c g h2).1
                  have m1 := plain_marks (okE_plain h4) (cmpOp o)
                  have m2 := plain_marks (okE_plain h2) (cmpOp p)
                  have hm : lastMarks [cmpOp o, cmpOp p] [y, z] = false := by
                    show behindInMarks (cmpOp p) z = false
                    exact m2
                  have ho := op_cmp (G := G) g.hu g.K g.w o
                  have ho' := op_cmp (G := G) g.hu g.K g.w p
                  have key : ∀ {σ : L2.St} {H : Hp} {Q : VK}, tE G W (orcX P (callF P k) ex) (.chn o p a b c) σ H Q → tChain (rD G fun st x y => (cmpD o st x y).map D.bl) (rD G fun st x y => (cmpD p st x y).map D.bl) (tE G W (orcX P (callF P k) ex) a) (tE G W (orcX P (callF P k) ex) b) (tE G W (orcX P (callF P k) ex) c) σ H Q := fun {σ H Q} q => by
                    obtain ⟨ρ, st, env, r, st', q1, q2, q3, q4⟩ := q
                    refine tG_bind q1 q2 q3 q4 fun x s1 ρ1 H1 v hm f1 s r1 rp e1 p1 => ?_
                    refine tG_bind r1 e1 f1 p1 fun y s2 ρ2 H2 u hm2 f2 s' r2 rp2 e2 p2 => ?_
                    rcases bind_some f2 with ⟨t, s3, f3, f4⟩ | ⟨z, f3, _⟩
                    · obtain ⟨t', f5, f6, rfl⟩ := onSt_of f3
                      cases f6
                      refine ⟨ρ2, _, x, y, .bl t, r2, rp.step s', rp2, Option.map_eq_some_iff.mpr ⟨t, f5, rfl⟩, fun ρ' H' w st1 r3 rw' => ⟨t, rw', ?_⟩⟩
                      have e3 := e2.step st1
                      have p3 := p2.step st1
                      cases t with
                      | true =>
                        rw [if_pos rfl]
                        refine tG_bind r3 e3 f4 p3 fun z s4 ρ4 H4 uz hm4 f4 s4' r4 rp4 e4 p4 => ?_
                        obtain ⟨d, z1, z2⟩ := post_on f4 p4
                        exact ⟨ρ4, s4, y, z, d, r4, (rp2.step st1).step s4', rp4, z1, z2⟩
                      | false =>
                        rw [if_neg Bool.false_ne_true]
                        exact tG_ret f4 p3 r3 rfl
                    · obtain ⟨t', _, f6, _⟩ := onSt_of f3
                      cases f6
                  refine ⟨PE_imp (pe_chain ho ho' ha hb hc hm) fun σ H Q q => key q, PT_imp (pt_chain ho ho' ha hb hc hm) fun σ H Q q => key ?_⟩
                  obtain ⟨ρ, st, env, r, st', q1, q2, q3, q4⟩ := q
                  rcases bind_some (show (evE (orcX P (callF P k) ex) (.chn o p a b c) env).bind (fun x => onSt fun st => truth st x) st = some (r, st') from q3) with ⟨d, s1, f1, f2⟩ | ⟨x, f1, rfl⟩
                  · refine ⟨ρ, st, env, .ok d, s1, q1, q2, f1, fun ρ' H' v s r1 rp => ?_⟩
                    obtain ⟨t, f3, rfl, rfl⟩ := onSt_of f2
                    obtain ⟨b', rfl⟩ := chn_bl f1
                    cases f3
                    cases rp
                    exact ⟨_, rfl, q4 ρ' H' _ s r1 rfl⟩
                  · exact ⟨ρ, st, env, .ex x, st', q1, q2, f1, q4⟩
    | _ => cases h
  | .slc a lo hi, S, X, W, ex, e, g, h => by
    cases e with
    | Subscript x y pos =>
      cases y with
      | Slice l hh t pos2 =>
        cases t with
        | some _ => cases h
        | none =>
          obtain ⟨h1, h2⟩ := band h
          obtain ⟨h3, h4⟩ := band h1
          have ha := (sE a g h3).1
          have hp : PE X (.Subscript x (.Slice l hh none pos2) pos) (tE G W (orcX P (callF P k) ex) (.slc a lo hi)) := PE_imp (pe_slice (sl_slc (G := G) g.K) ha (po_part h4 fun e he => (sE lo g he).1) (po_part h2 fun e he => (sE hi g he).1)) fun σ H Q q => by
            obtain ⟨ρ, st, env, r, st', q1, q2, q3, q4⟩ := q
            refine tG_bind q1 q2 q3 q4 fun x s1 ρ1 H1 v hm f1 s r1 rp e1 p1 => ?_
            refine tG_bind (m := evPart (orcX P (callF P k) ex) lo) r1 e1 f1 p1 fun y s2 ρ2 H2 u hm2 f2 s' r2 rp2 e2 p2 => ?_
            refine tG_bind (m := evPart (orcX P (callF P k) ex) hi) r2 e2 f2 p2 fun z s3 ρ3 H3 u3 hm3 f3 s3' r3 rp3 e3 p3 => ?_
            obtain ⟨w, w1, w2⟩ := post_on f3 p3
            cases rp2
            cases rp3
            exact ⟨ρ3, s3, x, w, r3, (rp.step s').step s3', w1, w2⟩
          exact ⟨hp, PT_val g.K hp fun _ => rfl⟩
      | _ => cases h
    | _ => cases h

  | .isi a ts, S, X, W, ex, e, g, h => by
    cases e with
    | Call fn as ks pos =>
      cases fn with
      | Name x p =>
        cases as with
        | nil => cases h
        | cons y t => cases t with
          | nil => cases h
          | cons z t => cases t with
            | cons _ _ => cases h
            | nil =>
              obtain ⟨h0, hz⟩ := band h
              obtain ⟨h1, h2⟩ := band h0
              have hk := noKw_of h2
              subst hk
              obtain ⟨h3, h4⟩ := band h1
              obtain ⟨h7, h5⟩ := band h3
              obtain ⟨h8, h6⟩ := band h5
              have e := of_decide_eq_true h7
              subst e
              have ha := (sE a g h4).1
              have hg := glo_of g.toGood h8
              have hm := g.fx.blt _ h6
              have hs := plain_star (okE_plain h4) [z] X.env
              have hp : PE X (.Call (.Name "isinstance" p) [y, z] [] pos) (tE G W (orcX P (callF P k) ex) (.isi a ts)) := by
                cases z with
                | Name c pc =>
                  obtain ⟨u, pu, ku⟩ := pa_ty g.sc (fun x hx => g.fx.blt x hx) hz
                  have hc : ∃ c, ts = [c] := by
                    cases ts with
                    | nil => cases hz
                    | cons c t => cases t with
                      | nil => exact ⟨c, rfl⟩
                      | cons _ _ =>
                        have hz2 := (band hz).2
                        cases hz2
                  obtain ⟨c, rfl⟩ := hc
                  refine PE_imp (pe_callB (id := "isinstance") (cr_isi (G := G) g.K c) hg hm boot_isinstance (pa_cons ha pu hs) (he := hs)) fun σ H Q q => ?_
                  obtain ⟨ρ, st, env, r, st', q1, q2, q3, q4⟩ := q
                  refine tG_bind q1 q2 q3 q4 fun x s1 ρ1 H1 v hm f1 s r1 rp e1 p1 => ?_
                  obtain ⟨d, z1, z2⟩ := post_on f1 p1
                  obtain ⟨t, z3, rfl⟩ := Option.map_eq_some_iff.mp z1
                  refine ku σ H1 _ ⟨ρ1, s1, x, v, t, rfl, r1, rp, z3, z2 ρ1 H1 _ Step.refl r1 ?_⟩
                  show V.bl _ = V.bl _
                  simp
                | Tuple zs j pz =>
                  obtain ⟨hz1, hz2⟩ := band hz
                  obtain ⟨u, pu, ku⟩ := pa_ty g.sc (fun x hx => g.fx.blt x hx) hz1
                  refine PE_imp (pe_callB (id := "isinstance") (cr_isiT (G := G) g.K ts) hg hm boot_isinstance (pa_cons ha (pa_cons (pe_tup pu) pa_nil (by rfl)) hs) (he := hs)) fun σ H Q q => ?_
                  obtain ⟨ρ, st, env, r, st', q1, q2, q3, q4⟩ := q
                  refine tG_bind q1 q2 q3 q4 fun x s1 ρ1 H1 v hm f1 s r1 rp e1 p1 => ?_
                  obtain ⟨d, z1, z2⟩ := post_on f1 p1
                  obtain ⟨t, z3, rfl⟩ := Option.map_eq_some_iff.mp z1
                  refine ku σ H1 _ ⟨line_le (by rw [List.length_map]; have := of_decide_eq_true hz2; omega), fun p hp => ⟨ρ1, s1, x, v, t, p, rfl, upd_same, r1.new hp, rp.step (step_new hp), z3, z2 ρ1 _ _ (step_new hp) (r1.new hp) rfl⟩⟩
                | _ => cases hz
              exact ⟨hp, PT_val g.K hp fun _ => rfl⟩
      | _ => cases h
    | _ => cases h
  | .call f es ds, S, X, W, ex, e, g, h => by
    cases e with
    | Call fn as ks pos =>
      cases fn with
      | Name x p =>
        obtain ⟨h0, hcalm⟩ := band h
        obtain ⟨h1, h2⟩ := band h0
        obtain ⟨h3, h4⟩ := band h1
        have hk := noKw_of h4
        subst hk
        obtain ⟨h5, h6⟩ := band h3
        obtain ⟨h7, h8⟩ := band h5
        obtain ⟨h9, h10⟩ := band h7
        obtain ⟨h11, h12⟩ := band h9
        have e := of_decide_eq_true h11
        subst e
        obtain ⟨⟨⟨fd, ps, F, mm⟩, kp⟩, hm⟩ := g.fx.fns _ h8
        obtain ⟨us, dvs, hb, hd, hr⟩ := mm ds h2
        have hp : PE X (.Call (.Name x p) as [] pos) (tE G W (orcX P (callF P k) ex) (.call x es ds)) := PE_imp (pe_fn (E := WE W.x) F ((g.room hcalm).mono (by omega)) (glo_of g.toGood h12) hm kp hb hd (passAt g.tk) (sEs es g h6) (okEs_plain h6) (fun e σ H Q q => tA_nil e h6 q) (dun_of h10).1) fun σ H Q q => by
          obtain ⟨ρ, st, env, r, st', q1, q2, q3, q4⟩ := q
          refine tG_bind q1 q2 q3 q4 fun xs s1 ρ1 H1 vs hm f1 s r1 rp e1 p1 => ?_
          exact ⟨ρ1, s1, xs ++ ds, r, st', r1, rp.append (hr ρ1 H1), f1, postC_of p1⟩
        exact ⟨hp, PT_val g.K hp fun _ => rfl⟩
      | _ => cases h
    | _ => cases h
  | .meth C o m es ds, S, X, W, ex, e, g, h => by
    cases e with
    | Call fn as ks pos =>
      cases fn with
      | Attribute x m' p =>
        obtain ⟨h0, hcalm⟩ := band h
        obtain ⟨h1, h2⟩ := band h0
        obtain ⟨h3, h4⟩ := band h1
        obtain ⟨h5, h6⟩ := band h3
        obtain ⟨h7, h8⟩ := band h5
        obtain ⟨h9, h10⟩ := band h7
        obtain ⟨h11, h12⟩ := band h9
        have hk := noKw_of h12
        subst hk
        obtain ⟨h13, h14⟩ := band h11
        obtain ⟨h15, h16⟩ := band h13
        have e := of_decide_eq_true h15
        subst e
        obtain ⟨⟨⟨fd, ps, F, mm⟩, kp⟩, hc, hm⟩ := g.fx.meths _ _ h6
        obtain ⟨us, dvs, hb, hd, hr⟩ := mm ds h4
        have hl : as.length < 20 := by
          have := of_decide_eq_true h2
          rw [← okEs_len h14]
          exact this
        have hp : PE X (.Call (.Attribute x m' p) as [] pos) (tE G W (orcX P (callF P k) ex) (.meth C o m' es ds)) := PE_imp (pe_mth (E := WE W.x) (sE o g h16).1 hc hm F ((g.room hcalm).mono (by omega)) hb hd (passAt g.tk) (sEs es g h14) (okEs_plain h14) (fun e σ H Q q => tA_nil e h14 q) (base_of h8) h10 hl) fun σ H Q q => by
          obtain ⟨ρ, st, env, r, st', q1, q2, q3, q4⟩ := q
          refine tG_bind q1 q2 q3 q4 fun x s1 ρ1 H1 v hm f1 s r1 rp e1 p1 => ?_
          rcases bind_some f1 with ⟨_, s2, f2, f3⟩ | ⟨z, f2, _⟩
          · obtain ⟨_, f4, _, rfl⟩ := onSt_of f2
            obtain ⟨⟨C', fs⟩, f5, f6⟩ := Option.bind_eq_some_iff.mp f4
            split at f6
            · rename_i hc
              obtain ⟨hc1, hc2⟩ := hc
              have hc1 : C' = C := hc1
              subst hc1
              obtain ⟨a, dx, fs', rfl, o1, o2⟩ := r1.obj rp f5
              refine ⟨a, dx, fs', rfl, o1, o2.no hc2, ?_⟩
              refine tG_bind r1 e1 f3 p1 fun xs s3 ρ3 H3 vs hm3 f7 s3' r3 rp3 e3 p3 => ?_
              exact ⟨ρ3, s3, x :: (xs ++ ds), r, st', r3, ⟨.ref a, _, rfl, rp.step s3', rp3.append (hr ρ3 H3)⟩, f7, postC_of p3⟩
            · cases f6
          · obtain ⟨_, _, f5, _⟩ := onSt_of f2
            cases f5
        exact ⟨hp, PT_val g.K hp fun _ => rfl⟩
      | _ => cases h
    | _ => cases h
  | .make C es ds, S, X, W, ex, e, g, h => by
    cases e with
    | Call fn as ks pos =>
      cases fn with
      | Name x p =>
        obtain ⟨h0, hcalm⟩ := band h
        obtain ⟨h1, h2⟩ := band h0
        obtain ⟨h3, h4⟩ := band h1
        have hk := noKw_of h4
        subst hk
        obtain ⟨h5, h6⟩ := band h3
        obtain ⟨h7, h8⟩ := band h5
        obtain ⟨h9, h10⟩ := band h7
        obtain ⟨h11, h12⟩ := band h9
        have e := of_decide_eq_true h11
        subst e
        obtain ⟨⟨⟨fd, ps, F, mm⟩, kp⟩, hmk, hm⟩ := g.fx.mks _ h8
        obtain ⟨us, dvs, hb, hd, hr⟩ := mm ds h2
        have hp : PE X (.Call (.Name x p) as [] pos) (tE G W (orcX P (callF P k) ex) (.make x es ds)) := PE_imp (pe_mk (E := WE W.x) hmk F ((g.room hcalm).mono (by omega)) (glo_of g.toGood h12) hm hb hd (passAt g.tk) (sEs es g h6) (okEs_plain h6) (fun e σ H Q q => tA_nil e h6 q) (dun_of h10).1) fun σ H Q q => by
          obtain ⟨ρ, st, env, r, st', q1, q2, q3, q4⟩ := q
          refine tG_bind q1 q2 q3 q4 fun xs s1 ρ1 H1 vs hm f1 s r1 rp e1 p1 => ?_
          intro b dx nb ndx ne
          have t1 := step_new (ρ := ρ1) (o := HO.own b) ndx
          have r2 := r1.new (o := HO.own b) ndx
          have nb2 : upd H1 dx (.own b) b = none := by rw [upd_ne (Ne.symm ne)]; exact nb
          obtain ⟨t2, r3⟩ := r2.loc (ho := .ins (G.cA x) dx []) (o := .ins x []) nb2 fun s => ⟨dx, [], upd_same, rfl⟩
          have t3 := t1.trans t2
          have hl : (⟨ρ1.l ++ [b], ρ1.z⟩ : Lo).l[s1.length]? = some b := loc_at r1
          have f2 : ((callF P k (x ++ ".__init__") (.ref s1.length :: (xs ++ ds))).bind fun r => if isNon r = true then M.ok (D.ref s1.length) else M.no) (s1 ++ [.ins x []]) = some (r, st') := f1
          rcases bind_some f2 with ⟨d, s2, f3, f4⟩ | ⟨y, f3, rfl⟩
          · refine ⟨_, _, .ref s1.length :: (xs ++ ds), .ok d, s2, r3, ⟨.ref b, _, rfl, ⟨b, hl, rfl⟩, (rp.append (hr ρ1 H1)).step t3⟩, f3, fun ρ' H' v s' r' rv => ?_⟩
            have hn : isNon d = true := by
              cases q : isNon d with
              | true => rfl
              | false =>
                rw [q, if_neg Bool.false_ne_true] at f4
                cases f4
            rw [hn, if_pos rfl] at f4
            cases f4
            refine ⟨?_, p1 ρ' H' (.ref b) (t3.trans s') r' ⟨b, s'.at hl, rfl⟩⟩
            cases d <;> first | (cases hn; done) | exact rv
          · exact ⟨_, _, .ref s1.length :: (xs ++ ds), .ex y, st', r3, ⟨.ref b, _, rfl, ⟨b, hl, rfl⟩, (rp.append (hr ρ1 H1)).step t3⟩, f3, fun ρ' H' dd fs' s' r' rx => p1 ρ' H' dd fs' (t3.trans s') r' rx⟩
        exact ⟨hp, PT_val g.K hp fun _ => rfl⟩
      | _ => cases h
    | _ => cases h
  | .callv i es, S, X, W, ex, e, g, h => by
    cases e with
    | Call fn as ks pos =>
      cases fn with
      | Name x p =>
        obtain ⟨h0, hcalm⟩ := band h
        obtain ⟨h1, h2⟩ := band h0
        have hk := noKw_of h2
        subst hk
        obtain ⟨h3, h4⟩ := band h1
        obtain ⟨h5, h6⟩ := band h3
        obtain ⟨n1, n2, n3⟩ := slot_of g.toGood h5
        have hp : PE X (.Call (.Name x p) as [] pos) (tE G W (orcX P (callF P k) ex) (.callv i es)) := PE_imp (pe_slot (E := WE W.x) (k := 2 * k + 2) (Z := L2.CX X.prog X.w) (S := fun f => P.vals.contains f = true) (fa := G.fA) (spf := spI G P k) (fun f hf => by
            obtain ⟨⟨⟨fd, ps, F, mm⟩, kp⟩, hm⟩ := g.fx.vals f hf
            obtain ⟨us, dvs, hb, hd, hr⟩ := mm [] hm
            have e0 := hr ⟨[], []⟩ fun _ => none
            cases e0
            cases hd
            exact ⟨fd, ps, F, kp, hb⟩) ((g.room hcalm).mono (by omega)) n1 (vis_of g.toGood h6) (passAt g.tk) (sEs es g h4) (okEs_plain h4) (fun e σ H Q q => tA_nil e h4 q) n2 n3) fun σ H Q q => by
          obtain ⟨ρ, st, env, r, st', q1, q2, q3, q4⟩ := q
          have q5 : (match env[i]? with
            | some (some (.fn f)) => if P.vals.contains f = true then (evEs (orcX P (callF P k) ex) es env).bind fun xs => callF P k f xs else M.no
            | _ => M.no) st = some (r, st') := q3
          cases e1 : env[i]? with
          | none =>
            rw [e1] at q5
            cases q5
          | some o =>
            rw [e1] at q5
            cases o with
            | none => cases q5
            | some d =>
              cases d with
              | fn f =>
                have q6 : (if P.vals.contains f = true then (evEs (orcX P (callF P k) ex) es env).bind fun xs => callF P k f xs else M.no) st = some (r, st') := q5
                by_cases hf : P.vals.contains f = true
                · rw [if_pos hf] at q6
                  obtain ⟨v, z1, z2⟩ := q2.at_ i _ e1
                  cases z2
                  refine ⟨f, z1, hf, ?_⟩
                  refine tG_bind q1 q2 q6 q4 fun xs s1 ρ1 H1 vs hm f1 s r1 rp e1 p1 => ?_
                  exact ⟨ρ1, s1, xs, r, st', r1, rp, f1, postC_of p1⟩
                · rw [if_neg hf] at q6
                  cases q6
              | _ => cases q5
        exact ⟨hp, PT_val g.K hp fun _ => rfl⟩
      | _ => cases h
    | _ => cases h
  | .bm0 m o, S, X, W, ex, e, g, h => by
    cases e with
    | Call fn as ks pos =>
      cases fn with
      | Attribute x gg p =>
        cases as with
        | cons _ _ => cases h
        | nil =>
          obtain ⟨h0, hm⟩ := band h
          obtain ⟨h1, h2⟩ := band h0
          obtain ⟨h3, h4⟩ := band h1
          obtain ⟨h5, h6⟩ := band h3
          have hk := noKw_of h6
          subst hk
          obtain ⟨h7, h8⟩ := band h5
          have e := of_decide_eq_true h7
          subst e
          have ho := (sE o g h8).1
          have hp := bm0_ok (pos := pos) (apos := p) ho h2 h4 hm
          exact ⟨hp, PT_val g.K hp fun _ => rfl⟩
      | _ => cases h
    | _ => cases h
  | .bm1 m o a, S, X, W, ex, e, g, h => by
    cases e with
    | Call fn as ks pos =>
      cases fn with
      | Attribute x gg p =>
        cases as with
        | nil => cases h
        | cons y t => cases t with
          | cons _ _ => cases h
          | nil =>
            obtain ⟨h0, hm⟩ := band h
            obtain ⟨h1, h2⟩ := band h0
            obtain ⟨h3, h4⟩ := band h1
            obtain ⟨h5, h6⟩ := band h3
            have hk := noKw_of h6
            subst hk
            obtain ⟨h7, h8⟩ := band h5
            obtain ⟨h9, h10⟩ := band h7
            have e := of_decide_eq_true h9
            subst e
            have ho := (sE o g h10).1
            have ha := (sE a g h8).1
            have hp := bm1_ok (m := m) (pos := pos) (apos := p) g.K ho ha (okE_plain h8) h2 h4 hm
            exact ⟨hp, PT_val g.K hp fun _ => rfl⟩
      | _ => cases h
    | _ => cases h
  | .fmt es, S, X, W, ex, e, g, h => by
    cases e with
    | JoinedStr vs pos =>
      cases vs with
      | nil => cases h
      | cons v vs =>
        have hp : PE X (.JoinedStr (v :: vs) pos) (tE G W (orcX P (callF P k) ex) (.fmt es)) := by
          cases vs with
          | cons w vs =>
            obtain ⟨ts, pj, kk⟩ := sFm es g (show okFm S es (v :: w :: vs) = true from h)
            refine PE_imp (pe_joined pj) fun σ H Q q => ?_
            obtain ⟨ρ, st, env, r, st', q1, q2, q3, q4⟩ := q
            rcases bind_some (show (evFm (orcX P (callF P k) ex) es env Str.empty).bind (fun z => M.ok (.str z)) st = some (r, st') from q3) with ⟨z, s1, f1, f2⟩ | ⟨x, f1, rfl⟩
            · obtain ⟨rfl, rfl⟩ := ok_of f2
              exact kk q1 q2 f1 fun ρ' H' y s r1 ey => by
                cases ey
                exact q4 ρ' H' _ s r1 rfl
            · exact kk q1 q2 f1 q4
          | nil =>
            cases es with
            | nil => cases h
            | cons q qs => cases qs with
              | cons _ _ =>
                have h2 := (band (show (_ && okFm S (_ :: _) []) = true from h)).2
                cases h2
              | nil =>
                obtain ⟨t, pe, kt⟩ := sP1 (sE q) g (band (show (_ && okFm S [] []) = true from h)).1
                refine PE_imp (PE_str (pe_joined1 pe)) fun σ H Q z => ?_
                obtain ⟨ρ, st, env, r, st', q1, q2, q3, q4⟩ := z
                have q5 : ((evE (orcX P (callF P k) ex) q env).bind fun x => ((M.lift (fmtD x)).bind fun y => if Str.empty.length + y.length ≤ 16777216 then M.ok (Str.empty ++ y) else M.no).bind fun z => M.ok (D.str z)) st = some (r, st') := by
                  rw [← M.bind_assoc]
                  exact q3
                refine kt (Q := fun y H1 => Q (.str y) H1) ?_
                refine tG_bind q1 q2 q5 q4 fun x s1 ρ1 H1 v hm f1 s r1 rp e1 p1 => ?_
                rw [M.bind_assoc] at f1
                rcases bind_some f1 with ⟨y, s2, f2, f3⟩ | ⟨y, f2, _⟩
                · obtain ⟨y', f4, f5, rfl⟩ := lift_of f2
                  cases f5
                  split at f3
                  · cases f3
                    have e0 : Str.empty ++ y = y := Str.empty_append y
                    rw [e0] at p1
                    exact fmt_ok rp f4 (p1 ρ1 H1 _ Step.refl r1 rfl)
                  · cases f3
                · obtain ⟨_, _, f5, _⟩ := lift_of f2
                  cases f5
        exact ⟨hp, PT_val g.K hp fun _ => rfl⟩
    | _ => cases h
  | .errf i f, S, X, W, ex, e, g, h => by
    cases e with
    | Attribute x gg pos =>
      cases x with
      | Name x p =>
        obtain ⟨h1, h2⟩ := band h
        obtain ⟨h3, h4⟩ := band h1
        obtain ⟨h5, h6⟩ := band h3
        have e := of_decide_eq_true h5
        subst e
        obtain ⟨n1, n2, n3⟩ := slot_of g.toGood h4
        obtain ⟨c, c1, c2, c3, c4⟩ := g.hd i (of_decide_eq_true h6)
        have hp : PE X (.Attribute (.Name x p) f pos) (tE G W (orcX P (callF P k) ex) (.errf i f)) := by
          by_cases hf : P.xfld c.cls f = true
          · refine PE_imp (c4 f hf (.Name x p) _ pos (pe_var n1 (vis_of g.toGood h2) n2 n3) rfl) fun σ H Q q => ?_
            obtain ⟨ρ, st, env, r, st', q1, q2, q3, q4⟩ := q
            obtain ⟨d, z1, rfl, rfl⟩ := lift_of (show M.lift (ex.bind fun x => if P.xfld x.cls f = true then getD' f x.fs else none) st = some (r, st') from q3)
            rw [c3] at z1
            have z2 : (if P.xfld c.cls f = true then getD' f c.fs else none) = some d := z1
            rw [if_pos hf] at z2
            obtain ⟨a1, a2, fs', a3, a4⟩ := q2.hx c c1
            rw [c2] at a1
            obtain ⟨v, v1, v2⟩ := a4.look z2
            exact ⟨.ref c.a, a1, rfl, rfl, c.dd, fs', v, rfl, a3, v1, q4 ρ H v Step.refl q1 v2⟩
          · refine ⟨fun pins s σ H Q I q => ?_⟩
            obtain ⟨ρ, st, env, r, st', q1, q2, q3, q4⟩ := q
            obtain ⟨d, z1, rfl, rfl⟩ := lift_of (show M.lift (ex.bind fun x => if P.xfld x.cls f = true then getD' f x.fs else none) st = some (r, st') from q3)
            rw [c3] at z1
            have z2 : (if P.xfld c.cls f = true then getD' f c.fs else none) = some d := z1
            rw [if_neg hf] at z2
            cases z2
        exact ⟨hp, PT_val g.K hp fun _ => rfl⟩
      | _ => cases h
    | _ => cases h
  | .rev a, S, X, W, ex, e, g, h => by cases e <;> cases h
  | .frz a, S, X, W, ex, e, g, h => by cases e <;> cases h
theorem sEs : ∀ (ps : List PX) {S : Sc} {X : Cx} {W : Cw} {ex : Option Ex} {es : List PySem.Expr}, Gd G P k S X W ex → okEs S ps es = true → PA X es (tA G W (orcX P (callF P k) ex) ps)
  | [], S, X, W, ex, es, g, h => by
    cases es with
    | nil =>
      refine PA_imp pa_nil fun σ H Q q => ?_
      obtain ⟨ρ, st, env, r, st', q1, q2, q3, q4⟩ := q
      exact tG_ret (a := ([] : List D)) q3 q4 q1 rfl
    | cons _ _ => cases h
  | p :: ps, S, X, W, ex, es, g, h => by
    cases es with
    | nil => cases h
    | cons e es =>
      obtain ⟨h1, h2⟩ := band h
      refine PA_imp (pa_cons (sE p g h1).1 (sEs ps g h2) (plain_star (okE_plain h1) es X.env)) fun σ H Q q => ?_
      obtain ⟨ρ, st, env, r, st', q1, q2, q3, q4⟩ := q
      refine tG_bind q1 q2 q3 q4 fun x s1 ρ1 H1 v hm f1 s r1 rp e1 p1 => ?_
      refine tG_bind r1 e1 f1 p1 fun xs s2 ρ2 H2 vs hm2 f2 s' r2 rp2 e2 p2 => ?_
      exact tG_ret f2 p2 r2 ⟨v, vs, rfl, rp.step s', rp2⟩
/-- the parts of a text with fields -/
theorem sFm : ∀ (ps : List PX) {S : Sc} {X : Cx} {W : Cw} {ex : Option Ex} {es : List PySem.Expr}, Gd G P k S X W ex → okFm S ps es = true → ∃ ts, PJ X es ts ∧ ∀ {ρ st env r st' σ H acc} {Q : Str → Hp → Prop}, Rel G ρ H st → EnvR G ρ H W env σ → evFm (orcX P (callF P k) ex) ps env acc st = some (r, st') → PostG G relB' ρ H W σ Q r st' → tJs ts acc σ H Q
  | [], S, X, W, ex, es, g, h => by
    cases es with
    | nil =>
      refine ⟨[], .nil, fun {ρ st env r st' σ H acc Q} q1 q2 q3 q4 => ?_⟩
      exact tG_ret (a := acc) (b := acc) (show M.ok acc st = some (r, st') from q3) q4 q1 rfl
    | cons _ _ => cases h
  | p :: ps, S, X, W, ex, es, g, h => by
    cases es with
    | nil => cases h
    | cons e es =>
      obtain ⟨h1, h2⟩ := band h
      obtain ⟨ts, pj, kk⟩ := sFm ps g h2
      obtain ⟨t, pe, kt⟩ := sP1 (sE p) g h1
      refine ⟨t :: ts, .cons pe pj, fun {ρ st env r st' σ H acc Q} q1 q2 q3 q4 => ?_⟩
      refine kt ?_
      refine tG_bind q1 q2 (show ((evE (orcX P (callF P k) ex) p env).bind fun x => (M.lift (fmtD x)).bind fun y => if acc.length + y.length ≤ 16777216 then evFm (orcX P (callF P k) ex) ps env (acc ++ y) else M.no) st = some (r, st') from q3) q4 fun x s1 ρ1 H1 v hm f1 s r1 rp e1 p1 => ?_
      rcases bind_some f1 with ⟨y, s2, f2, f3⟩ | ⟨y, f2, _⟩
      · obtain ⟨y', f4, f5, rfl⟩ := lift_of f2
        cases f5
        split at f3
        · rename_i hz
          refine fmt_ok rp f4 ⟨?_, kk r1 e1 f3 p1⟩
          rw [Str.length_append]
          exact line_le hz
        · cases f3
      · obtain ⟨_, _, f5, _⟩ := lift_of f2
        cases f5
theorem sF : ∀ (f : PF) {S : Sc} {X : Cx} {W : Cw} {ex : Option Ex} {e : PySem.Expr}, Gd G P k S X W ex → okF S f e = true → PE X e (tF G W (orcX P (callF P k) ex) f)
  | .lst es, S, X, W, ex, e, g, h => by
    cases e with
    | List xs pos =>
      obtain ⟨h1, h2⟩ := band h
      exact lstF_ok (sEs es g h1) (of_decide_eq_true h2)
    | _ => cases h
  | .dsp ks es, S, X, W, ex, e, g, h => by
    cases e with
    | Dict keys vals pos =>
      cases keys with
      | cons _ _ => cases h
      | nil => cases vals with
        | cons _ _ => cases h
        | nil =>
          cases ks with
          | cons _ _ => cases h
          | nil => cases es with
            | cons _ _ => cases h
            | nil =>
              refine PE_imp pe_dnewK fun σ H Q q => ?_
              obtain ⟨ρ, st, env, r, st', q1, q2, q3, q4⟩ := q
              have q5 : some (R.ok (D.dct []), st) = some (r, st') := q3
              cases q5
              exact fun p hp => q4 ρ H p _ Step.refl q1 hp ⟨[], rfl, rfl⟩
    | _ => cases h
  | .list a, S, X, W, ex, e, g, h => by
    cases e with
    | Call fn as ks pos =>
      cases fn with
      | Name x p => cases as with
        | nil => cases h
        | cons y t => cases t with
          | cons _ _ => cases h
          | nil =>
            obtain ⟨h0, hcalm⟩ := band h
            obtain ⟨h1, h2⟩ := band h0
            have hk := noKw_of h2
            subst hk
            obtain ⟨h3, h4⟩ := band h1
            obtain ⟨h7, h5⟩ := band h3
            obtain ⟨h8, h6⟩ := band h5
            have e := of_decide_eq_true h7
            subst e
            have hs := plain_star (okE_plain h4) [] X.env
            exact PE_imp (pe_callTy (T := "list") (cr_list (G := G) (g.calm hcalm) g.K) (glo_of g.toGood h8) (g.fx.blt _ h6) (by decide +kernel) (pa_cons (sE a g h4).1 pa_nil hs) (he := hs)) fun σ H Q q => cf_rd rfl q
      | _ => cases h
    | _ => cases h
  | .srt a, S, X, W, ex, e, g, h => by
    cases e with
    | Call fn as ks pos =>
      cases fn with
      | Name x p => cases as with
        | nil => cases h
        | cons y t => cases t with
          | cons _ _ => cases h
          | nil =>
            obtain ⟨h1, h2⟩ := band h
            have hk := noKw_of h2
            subst hk
            obtain ⟨h3, h4⟩ := band h1
            obtain ⟨h7, h5⟩ := band h3
            obtain ⟨h8, h6⟩ := band h5
            have e := of_decide_eq_true h7
            subst e
            have hs := plain_star (okE_plain h4) [] X.env
            exact PE_imp (pe_callB (id := "sorted") (cr_srt (G := G) g.K) (glo_of g.toGood h8) (g.fx.blt _ h6) boot_sorted (pa_cons (sE a g h4).1 pa_nil hs) (he := hs)) fun σ H Q q => cf_rd rfl q
      | _ => cases h
    | _ => cases h
  | .dict a, S, X, W, ex, e, g, h => by
    cases e with
    | Call fn as ks pos =>
      cases fn with
      | Name x p => cases as with
        | nil => cases h
        | cons y t => cases t with
          | cons _ _ => cases h
          | nil =>
            obtain ⟨h1, h2⟩ := band h
            have hk := noKw_of h2
            subst hk
            obtain ⟨h3, h4⟩ := band h1
            obtain ⟨h7, h5⟩ := band h3
            obtain ⟨h8, h6⟩ := band h5
            have e := of_decide_eq_true h7
            subst e
            have hs := plain_star (okE_plain h4) [] X.env
            exact PE_imp (pe_callTy (T := "dict") (cr_dict (G := G)) (glo_of g.toGood h8) (g.fx.blt _ h6) (by decide +kernel) (pa_cons (sE a g h4).1 pa_nil hs) (he := hs)) fun σ H Q q => cf_rd rfl q
      | _ => cases h
    | _ => cases h
  | .lc own src tg cs a, S, X, W, ex, e, g, h => by
    cases e with
    | ListComp elt gens scope pos =>
      cases gens with
      | nil => cases h
      | cons gn t => cases t with
        | cons _ _ =>
          cases gn
          cases h
        | nil =>
          obtain ⟨t, iter, ifs, z⟩ := gn
          obtain ⟨h, ha⟩ := band h
          obtain ⟨h, hcs⟩ := band h
          obtain ⟨h, htg⟩ := band h
          obtain ⟨h, hown⟩ := band h
          obtain ⟨h, hblk⟩ := band h
          obtain ⟨h, hsl⟩ := band h
          obtain ⟨h, hsrc⟩ := band h
          obtain ⟨h, hpl⟩ := band h
          obtain ⟨h, hcl⟩ := band h
          obtain ⟨h, hhn⟩ := band h
          obtain ⟨hz, hcalm⟩ := band h
          have hz := of_decide_eq_true hz
          subst hz
          have hc := g.calm hcalm
          have hown := of_decide_eq_true hown
          have hnd : S.hnd = none := by
            cases q : S.hnd with
            | none => rfl
            | some _ =>
              rw [q] at hhn
              cases hhn
          have hW : W.h = none := by
            cases q : W.h with
            | none => rfl
            | some k =>
              have := g.hn k q
              rw [hnd] at this
              cases this
          have gb : ∀ (s : Shared) (H : Hp) (C : Addr) (cl : List (Str × Addr)) (fp : List Addr), Gd G P k (S.blk scope) (X.blk s H scope (compEnvC scope cl C X.env) fp) ⟨fun _ _ _ _ => False, none⟩ ex := fun s H C cl fp =>
            { K := g.K, w := g.w, N := g.N, nd := g.nd, calm := g.calm
              sc := by
                show relS scope X.env.scope = relS scope S.sc
                rw [g.sc]
              fn := fun x hx => hx
              room := g.room
              un := g.un
              fx := g.fx.of rfl rfl rfl rfl rfl
              tk := takes_none5
              hd := fun i hi => by
                have hi : S.hnd = some i := hi
                rw [hnd] at hi
                cases hi
              hn := fun _ q => nomatch q }
          have ok := blkOk_by (N := X.N) (sc := X.env.scope) (scope := scope) (own := ownN S own) (by rw [g.N, g.sc]; exact hblk)
          have hsl' : ∀ i ∈ tgSl tg, i ∈ own := fun i hi => by
            have := List.all_eq_true.mp hsl i hi
            simpa using this
          have nh : NoHnd (⟨fun _ _ _ _ => False, none⟩ : Cw) (tgSl tg) := fun _ q => nomatch q
          have pi := sI src g hsrc
          have pts : ∀ (s : Shared) (H : Hp) (C : Addr) (cl : List (Str × Addr)) (fp : List Addr), PTs (X.blk s H scope (compEnvC scope cl C X.env) fp) ifs (tG G ⟨fun _ _ _ _ => False, none⟩ relB (evCs (orcX P (callF P k) ex) cs)) := fun s H C cl fp => by
            have hcl := of_decide_eq_true hcl
            cases cs with
            | nil =>
              cases ifs with
              | nil => exact pts0
              | cons _ _ => cases hcs
            | cons c t => cases t with
              | cons _ _ => simp at hcl
              | nil => cases ifs with
                | nil => cases hcs
                | cons e1 t => cases t with
                  | nil => exact pts1 (sE c (gb s H C cl fp) (band hcs).1).2
                  | cons _ _ =>
                    have := (band hcs).2
                    cases this
          refine PE_imp (pe_lc hc (by rw [g.N]; exact g.nd) pi ok (fun s H C cl fp => sTg tg (gb s H C cl fp).toGood hc nh htg) (fun s H C cl fp => pts s H C cl fp) (fun s H C cl fp => (sE a (gb s H C cl fp) ha).1) (plain_folded hpl X.env)) fun σ H Q q => ?_
          rw [hown]
          exact lc_rd hW hsl' q
    | _ => cases h
  | .dc own src tg cs ak a, S, X, W, ex, e, g, h => by
    cases e with
    | DictComp kx vx gens scope pos =>
      cases gens with
      | nil => cases h
      | cons gn t => cases t with
        | cons _ _ =>
          cases gn
          cases h
        | nil =>
          obtain ⟨t, iter, ifs, z⟩ := gn
          obtain ⟨h, ha⟩ := band h
          obtain ⟨h, hk⟩ := band h
          obtain ⟨h, hcs⟩ := band h
          obtain ⟨h, htg⟩ := band h
          obtain ⟨h, hown⟩ := band h
          obtain ⟨h, hblk⟩ := band h
          obtain ⟨h, hsl⟩ := band h
          obtain ⟨h, hsrc⟩ := band h
          obtain ⟨h, hpl⟩ := band h
          obtain ⟨h, hcl⟩ := band h
          obtain ⟨h, hhn⟩ := band h
          obtain ⟨hz, hcalm⟩ := band h
          have hz := of_decide_eq_true hz
          subst hz
          have hc := g.calm hcalm
          have hown := of_decide_eq_true hown
          have hnd : S.hnd = none := by
            cases q : S.hnd with
            | none => rfl
            | some _ =>
              rw [q] at hhn
              cases hhn
          have hW : W.h = none := by
            cases q : W.h with
            | none => rfl
            | some k =>
              have := g.hn k q
              rw [hnd] at this
              cases this
          have gb : ∀ (s : Shared) (H : Hp) (C : Addr) (cl : List (Str × Addr)) (fp : List Addr), Gd G P k (S.blk scope) (X.blk s H scope (compEnvC scope cl C X.env) fp) ⟨fun _ _ _ _ => False, none⟩ ex := fun s H C cl fp =>
            { K := g.K, w := g.w, N := g.N, nd := g.nd, calm := g.calm
              sc := by
                show relS scope X.env.scope = relS scope S.sc
                rw [g.sc]
              fn := fun x hx => hx
              room := g.room
              un := g.un
              fx := g.fx.of rfl rfl rfl rfl rfl
              tk := takes_none5
              hd := fun i hi => by
                have hi : S.hnd = some i := hi
                rw [hnd] at hi
                cases hi
              hn := fun _ q => nomatch q }
          have ok := blkOk_by (N := X.N) (sc := X.env.scope) (scope := scope) (own := ownN S own) (by rw [g.N, g.sc]; exact hblk)
          have hsl' : ∀ i ∈ tgSl tg, i ∈ own := fun i hi => by
            have := List.all_eq_true.mp hsl i hi
            simpa using this
          have nh : NoHnd (⟨fun _ _ _ _ => False, none⟩ : Cw) (tgSl tg) := fun _ q => nomatch q
          have pi := sI src g hsrc
          have pts : ∀ (s : Shared) (H : Hp) (C : Addr) (cl : List (Str × Addr)) (fp : List Addr), PTs (X.blk s H scope (compEnvC scope cl C X.env) fp) ifs (tG G ⟨fun _ _ _ _ => False, none⟩ relB (evCs (orcX P (callF P k) ex) cs)) := fun s H C cl fp => by
            have hcl := of_decide_eq_true hcl
            cases cs with
            | nil =>
              cases ifs with
              | nil => exact pts0
              | cons _ _ => cases hcs
            | cons c t => cases t with
              | cons _ _ => simp at hcl
              | nil => cases ifs with
                | nil => cases hcs
                | cons e1 t => cases t with
                  | nil => exact pts1 (sE c (gb s H C cl fp) (band hcs).1).2
                  | cons _ _ =>
                    have := (band hcs).2
                    cases this
          refine PE_imp (pe_dc hc (by rw [g.N]; exact g.nd) pi ok (fun s H C cl fp => sTg tg (gb s H C cl fp).toGood hc nh htg) (fun s H C cl fp => pts s H C cl fp) (fun s H C cl fp => (sE ak (gb s H C cl fp) hk).1) (fun s H C cl fp => (sE a (gb s H C cl fp) ha).1) (plain_folded hpl X.env)) fun σ H Q q => ?_
          rw [hown]
          exact dc_rd hW hsl' q
    | _ => cases h
theorem sI : ∀ (src : PSrc) {S : Sc} {X : Cx} {W : Cw} {ex : Option Ex} {tg e : PySem.Expr}, Gd G P k S X W ex → okI S src tg e = true → PI X tg e (tI G W (orcX P (callF P k) ex) src)
  | .val a, S, X, W, ex, tg, e, g, h => by
    have ha := (sE a g (show okE S a e = true from h)).1
    exact pi_val g.K ha
  | .items a, S, X, W, ex, tg, e, g, h => by
    cases tg with
    | Tuple elts kk tpos => cases e with
      | Call fn as ks pos => cases fn with
        | Attribute x m p => cases as with
          | cons _ _ => cases h
          | nil =>
            obtain ⟨h1, h2⟩ := band h
            obtain ⟨h3, h4⟩ := band h1
            obtain ⟨h5, h6⟩ := band h3
            obtain ⟨h7, h8⟩ := band h5
            have hk := noKw_of h6
            subst hk
            have e := of_decide_eq_true h7
            subst e
            exact pi_itemsG (sE a g h8).1 h2 h4
        | _ => cases h
      | _ => cases h
    | _ => cases h
  | .enum a, S, X, W, ex, tg, e, g, h => by
    cases tg with
    | Tuple elts kk tpos => cases e with
      | Call fn as ks pos => cases fn with
        | Name x p => cases as with
          | nil => cases h
          | cons y t => cases t with
            | cons _ _ => cases h
            | nil =>
              obtain ⟨h1, h2⟩ := band h
              have hk := noKw_of h2
              subst hk
              obtain ⟨h3, h4⟩ := band h1
              obtain ⟨h7, h5⟩ := band h3
              obtain ⟨h8, h6⟩ := band h5
              have e := of_decide_eq_true h7
              subst e
              exact pi_enumG (x := "enumerate") g.K (glo_of g.toGood h8) (g.fx.blt _ h6) (sE a g h4).1 (okE_plain h4)
        | _ => cases h
      | _ => cases h
    | _ => cases h
  | .zip a b, S, X, W, ex, tg, e, g, h => by
    cases tg with
    | Tuple elts kk tpos => cases e with
      | Call fn as ks pos => cases fn with
        | Name x p => cases as with
          | nil => cases h
          | cons y t => cases t with
            | nil => cases h
            | cons z t => cases t with
              | cons _ _ => cases h
              | nil =>
                obtain ⟨h1, h2⟩ := band h
                have hk := noKw_of h2
                subst hk
                obtain ⟨h3, h4⟩ := band h1
                obtain ⟨h5, h6⟩ := band h3
                obtain ⟨h7, h8⟩ := band h5
                obtain ⟨h9, h10⟩ := band h8
                have e := of_decide_eq_true h7
                subst e
                exact pi_zipG g.K (glo_of g.toGood h9) (g.fx.blt _ h10) (sE a g h6).1 (okE_plain h6) (sE b g h4).1 (okE_plain h4)
        | _ => cases h
      | _ => cases h
    | _ => cases h
  | .rng [a], S, X, W, ex, tg, e, g, h => by
    cases e with
    | Call fn as ks pos => cases fn with
      | Name x p => cases as with
        | nil => cases h
        | cons y t => cases t with
          | cons _ _ => cases h
          | nil =>
            obtain ⟨h1, h2⟩ := band h
            have hk := noKw_of h2
            subst hk
            obtain ⟨h3, h4⟩ := band h1
            obtain ⟨h7, h5⟩ := band h3
            obtain ⟨h8, h6⟩ := band h5
            have e := of_decide_eq_true h7
            subst e
            exact pi_rng1 (glo_of g.toGood h8) (g.fx.blt _ h6) (sE a g h4).1 (okE_plain h4)
      | _ => cases h
    | _ => cases h
  | .rng [a, b], S, X, W, ex, tg, e, g, h => by
    cases e with
    | Call fn as ks pos => cases fn with
      | Name x p => cases as with
        | nil => cases h
        | cons y t => cases t with
          | nil => cases h
          | cons z t => cases t with
            | cons _ _ => cases h
            | nil =>
              obtain ⟨h1, h2⟩ := band h
              have hk := noKw_of h2
              subst hk
              obtain ⟨h3, h4⟩ := band h1
              obtain ⟨h5, h6⟩ := band h3
              obtain ⟨h7, h8⟩ := band h5
              obtain ⟨h9, h10⟩ := band h8
              have e := of_decide_eq_true h7
              subst e
              exact pi_rng2 (glo_of g.toGood h9) (g.fx.blt _ h10) (sE a g h6).1 (okE_plain h6) (sE b g h4).1 (okE_plain h4)
      | _ => cases h
    | _ => cases h
  | .rng [], S, X, W, ex, tg, e, g, h => by cases e <;> cases tg <;> cases h
  | .rng (_ :: _ :: _ :: _), S, X, W, ex, tg, e, g, h => by cases e <;> cases tg <;> cases h
end
end
end Mp
end
section
set_option Elab.async false
set_option linter.all false
set_option maxRecDepth 100000
set_option maxHeartbeats 2000000
/-! Mp: the readings of statements. -/
namespace Mp
open PySem PySem.Spec PyProof.Rows L2
def PostS (G : Cfg) (W : Cw) (ρ : Lo) (H : Hp) (D : Ends) : Fl → Sto → Prop
  | .next env', st' => ∀ ρ' H' σ', Step ρ ρ' H H' → Rel G ρ' H' st' → EnvR G ρ' H' W env' σ' → D.nx σ' H'
  | .cont env', st' => ∀ ρ' H' σ', Step ρ ρ' H H' → Rel G ρ' H' st' → EnvR G ρ' H' W env' σ' → D.ct σ' H'
  | .brk env', st' => ∀ ρ' H' σ', Step ρ ρ' H H' → Rel G ρ' H' st' → EnvR G ρ' H' W env' σ' → D.bk σ' H'
  | .ret d, st' => ∀ ρ' H' v, Step ρ ρ' H H' → Rel G ρ' H' st' → RelP G ρ' H' d v → D.rt v H'
  | .ex x env', st' => ∀ ρ' H' σ' dd fs', Step ρ ρ' H H' → Rel G ρ' H' st' → EnvR G ρ' H' W env' σ' → ExR G ρ' H' x dd fs' → W.x (.ref (G.cA x.cls)) (some dd) σ' H'
def tS (G : Cfg) (W : Cw) (p : Env → SM) : TS := fun D σ H => ∃ ρ st env f st', Rel G ρ H st ∧ EnvR G ρ H W env σ ∧ p env st = some (f, st') ∧ PostS G W ρ H D f st'
section
variable {G : Cfg} {W : Cw} {ρ ρ1 : Lo} {H H1 : Hp} {D : Ends} {σ : L2.St} {st st' : Sto} {env : Env} {f : Fl}
theorem PostS.step (h : PostS G W ρ H D f st') (s : Step ρ ρ1 H H1) : PostS G W ρ1 H1 D f st' := by
  cases f with
  | next e => exact fun ρ' H' σ' s' => h ρ' H' σ' (s.trans s')
  | cont e => exact fun ρ' H' σ' s' => h ρ' H' σ' (s.trans s')
  | brk e => exact fun ρ' H' σ' s' => h ρ' H' σ' (s.trans s')
  | ret d => exact fun ρ' H' v s' => h ρ' H' v (s.trans s')
  | ex x e => exact fun ρ' H' σ' dd fs' s' => h ρ' H' σ' dd fs' (s.trans s')
theorem run_some {α : Type} {m : M α} {k : α → SM} (h : m.run env k st = some (f, st')) : (∃ a s1, m st = some (.ok a, s1) ∧ k a s1 = some (f, st')) ∨ ∃ x, m st = some (.ex x, st') ∧ f = .ex x env := by
  have h2 : (match m st with
    | none => none
    | some (.ok a, s) => k a s
    | some (.ex x, s) => some (.ex x env, s)) = some (f, st') := h
  cases e : m st with
  | none =>
    rw [e] at h2
    cases h2
  | some q =>
    obtain ⟨r1, s1⟩ := q
    rw [e] at h2
    cases r1 with
    | ok a => exact .inl ⟨a, s1, rfl, h2⟩
    | ex x =>
      cases h2
      exact .inr ⟨x, rfl, rfl⟩
/-- an expression ahead -/
theorem tS_run {α β : Type} {rel : Lo → Hp → α → β → Prop} {m : Env → M α} {k : α → SM} {K : β → Hp → Prop} (hr : Rel G ρ H st) (he : EnvR G ρ H W env σ) (ev : (m env).run env k st = some (f, st')) (hp : PostS G W ρ H D f st')
    (c : ∀ x s1 ρ1 H1 v, m env st = some (.ok x, s1) → k x s1 = some (f, st') → Step ρ ρ1 H H1 → Rel G ρ1 H1 s1 → rel ρ1 H1 x v → EnvR G ρ1 H1 W env σ → PostS G W ρ1 H1 D f st' → K v H1) : tG G W rel m σ H K := by
  rcases run_some ev with ⟨x, s1, h1, h2⟩ | ⟨x, h1, rfl⟩
  · exact ⟨ρ, st, env, .ok x, s1, hr, he, h1, fun ρ1 H1 v s rel rp => c x s1 ρ1 H1 v h1 h2 s rel rp (he.step s) (hp.step s)⟩
  · exact ⟨ρ, st, env, .ex x, st', hr, he, h1, fun ρ' H' dd fs' s r x' => hp ρ' H' σ dd fs' s r (he.step s) x'⟩
theorem fl_of {g : Fl} (h : fl g st = some (f, st')) : f = g ∧ st' = st := by
  cases h
  exact ⟨rfl, rfl⟩
end
end Mp
end
section
set_option Elab.async false
set_option linter.all false
set_option maxRecDepth 100000
set_option maxHeartbeats 4000000
/-! Mp: try with except clauses. -/
namespace Mp
open PySem PySem.Spec PyProof.Rows L2
structure NameG (X : Cx) (G : Cfg) (P : Prg) (c x : Str) : Prop where
  gl : Gl X x
  db : (x == ("__debug__" : Str)) = false
  mg : X.mg x = some (.ref (G.cA c))
  xm : ∀ e b, P.wld.sub e c = some b → PySem.W.exmOne X.K (.ref (G.cA e)) (.ref (G.cA c)) = some b
inductive TestG (X : Cx) (G : Cfg) (P : Prg) : List Str → PySem.Expr → Prop
  | one {c x : Str} {p : Pos} (h : NameG X G P c x) : TestG X G P [c] (.Name x p)
  | two {c1 c2 x1 x2 : Str} {p1 p2 tp : Pos} {kk : Nat} (h1 : NameG X G P c1 x1) (h2 : NameG X G P c2 x2) : TestG X G P [c1, c2] (.Tuple [.Name x1 p1, .Name x2 p2] kk tp)
def suiteW (i : Option Nat) (h : HCx) : Cw := ⟨fun _ _ _ _ => False, i.map fun _ => h⟩
inductive HdG (X : Cx) (G : Cfg) (P : Prg) (call : Str → List Mp.D → M Mp.D) : List PH → List ExceptHandler → Prop
  | nil : HdG X G P call [] []
  | cons {cs : List Str} {i : Option Nat} {b : List PSt} {te : PySem.Expr} {nm : Option Str} {s0 : Stmt} {ss : List Stmt} {pos' : Pos} {hs : List PH} {hds : List ExceptHandler} (ht : TestG X G P cs te)
      (hsu : ∀ (a : Addr) (oe : Obj) (pn : List (Addr × Obj)) (h : HCx), h.a = a → Zc (.ref (G.cA h.cls)) (some h.dd) oe → (∃ vs, oe.data = .fields vs) → (∀ j, i = some j → h.slot = j) →
        PSs (X.suite a ((a, oe) :: pn)) (s0 :: ss) (tS G (suiteW i h) (exSs (orcX P call (i.map fun _ => ⟨h.cls, h.fs⟩)) P.wld b)))
      (hn : match i with
        | none => nm = none
        | some j => ∃ n, nm = some n ∧ X.N[j]? = some n ∧ X.env.kindOf n = some .local)
      (r : HdG X G P call hs hds) : HdG X G P call (.mk cs i b :: hs) (.ExceptHandler (some te) nm (s0 :: ss) pos' :: hds)
/-- what is wished of an exception of the body -/
def wishH (G : Cfg) (W : Cw) (O : Orc) (Wd : Wld) (D : Ends) (hs : List PH) : WX := fun cls d σ H => ∃ ρ st env x st' f dd fs', cls = .ref (G.cA x.cls) ∧ d = some dd ∧ Rel G ρ H st ∧ EnvR G ρ H W env σ ∧ ExR G ρ H x dd fs' ∧ exH O Wd hs x env st = some (f, st') ∧ PostS G W ρ H D f st'
theorem fly_push {B h : Heap} {l : List PySem.Env} {a : Addr} {Z : Obj → Prop} {o : Obj} (x : HandSPX.FlyingZ B l a Z h) : HandSPX.FlyingZ B l a Z (h.push o) := by
  obtain ⟨k1, k2, k3, oe, vs, T, oT, ts, e1, z1, d1, h1, nT, neT, eT, dT, h3⟩ := x
  have kp : ∀ b u, h.get? b = some u → (h.push o).get? b = some u := fun _ _ e => Heap.get?_push_of_some _ e
  refine ⟨fun b u e => kp b u (k1 b u e), k2, k3.of_keeps fun b u e _ => ⟨u, kp b u e, rfl⟩, oe, vs, T, oT, ts, kp _ _ e1, z1, d1, h1, nT, neT, kp _ _ eT, dT, h3⟩
theorem up_push {h h' : Heap} {o : Obj} (x : h.UpToSlots h') : h.UpToSlots (h'.push o) := fun b u e n => by
  obtain ⟨sl, q⟩ := x b u e n
  exact ⟨sl, Heap.get?_push_of_some _ q⟩
section
variable {X : Cx} {G : Cfg} {P : Prg} {W : Cw} {call : Str → List Mp.D → M Mp.D} {ex : Option Ex}
/-- the slots of a suite -/
theorem env_suite {ρ : Lo} {H : Hp} {env : Env} {σ : L2.St} {x : Ex} {dd a : Addr} {fs' : List (Str × V)} {i : Nat} (e : EnvR G ρ H W env σ) (hx : ExR G ρ H x dd fs') (hi : i < env.length) : EnvR G ρ H (suiteW (some i) ⟨i, a, dd, x.cls, x.fs⟩) (env.set i none) (σ.set i (some (.ref a))) := by
  refine ⟨by simp [e.len], fun j d q => ?_, fun h q => ?_⟩
  · by_cases hj : i = j
    · subst hj
      rw [List.getElem?_set_self hi] at q
      cases q
    · rw [List.getElem?_set_ne hj] at q
      rw [List.getElem?_set_ne hj]
      exact e.at_ j d q
  · cases q
    exact ⟨List.getElem?_set_self (by rw [← e.len]; exact hi), hx.1, fs', hx.2.1, hx.2.2⟩
theorem env_behind {ρ : Lo} {H : Hp} {W' : Cw} {env : Env} {σ : L2.St} {i : Nat} (hW : W.h = none) (e : EnvR G ρ H W' env σ) : EnvR G ρ H W (env.set i none) (σ.set i none) := by
  refine ⟨by simp [e.len], fun j d q => ?_, fun h q => by rw [hW] at q; cases q⟩
  by_cases hj : i = j
  · subst hj
    by_cases hl : i < env.length
    · rw [List.getElem?_set_self hl] at q
      cases q
    · rw [List.getElem?_eq_none (by simpa using hl)] at q
      cases q
  · rw [List.getElem?_set_ne hj] at q
    rw [List.getElem?_set_ne hj]
    exact e.at_ j d q
theorem env_other {ρ : Lo} {H : Hp} {W' : Cw} {env : Env} {σ : L2.St} (hW : W.h = none) (e : EnvR G ρ H W' env σ) : EnvR G ρ H W env σ := ⟨e.len, e.at_, fun h q => by rw [hW] at q; cases q⟩
/-- the ends of a suite -/
def endsOf (i : Option Nat) (D : Ends) : Ends := match i with
  | none => D
  | some i => { nx := fun σ H => D.nx (σ.set i none) H, rt := D.rt, bk := fun σ H => D.bk (σ.set i none) H, ct := fun σ H => D.ct (σ.set i none) H }
theorem post_suite {i : Option Nat} {W' : Cw} {D : Ends} {ρ : Lo} {H : Hp} {r : Option (Fl × Sto)} {f : Fl} {st' : Sto} (hW : W.h = none) (e : suiteEnd i r = some (f, st')) (p : PostS G W ρ H D f st') : ∃ f', r = some (f', st') ∧ PostS G W' ρ H (endsOf i D) f' st' := by
  cases r with
  | none => cases e
  | some z =>
    obtain ⟨g, s⟩ := z
    cases g with
    | next e1 =>
      cases e
      refine ⟨.next e1, rfl, fun ρ' H' σ' s r1 en => ?_⟩
      cases i with
      | none => exact p ρ' H' σ' s r1 (env_other hW en)
      | some i => exact p ρ' H' _ s r1 (env_behind hW en)
    | brk e1 =>
      cases e
      refine ⟨.brk e1, rfl, fun ρ' H' σ' s r1 en => ?_⟩
      cases i with
      | none => exact p ρ' H' σ' s r1 (env_other hW en)
      | some i => exact p ρ' H' _ s r1 (env_behind hW en)
    | cont e1 =>
      cases e
      refine ⟨.cont e1, rfl, fun ρ' H' σ' s r1 en => ?_⟩
      cases i with
      | none => exact p ρ' H' σ' s r1 (env_other hW en)
      | some i => exact p ρ' H' _ s r1 (env_behind hW en)
    | ret d =>
      cases e
      refine ⟨.ret d, rfl, ?_⟩
      cases i with
      | none => exact p
      | some i => exact p
    | ex _ _ => cases e
theorem any_of {K : PySem.W.Frag} {Wd : Wld} {c : Str} : ∀ {ds : List Str} {b : Bool}, (∀ d ∈ ds, ∀ b, Wd.sub c d = some b → PySem.W.exmOne K (.ref (G.cA c)) (.ref (G.cA d)) = some b) → matches_ Wd c ds = some b → PySem.W.exmAny K (.ref (G.cA c)) (ds.map fun d => Value.ref (G.cA d)) = some b
  | [], b, _, h => h
  | d :: ds, b, hx, h => by
    have h2 : (match Wd.sub c d, matches_ Wd c ds with
      | some a, some b => some (a || b)
      | _, _ => none) = some b := h
    cases e1 : Wd.sub c d with
    | none =>
      rw [e1] at h2
      cases h2
    | some b1 =>
      cases e2 : matches_ Wd c ds with
      | none =>
        rw [e1, e2] at h2
        cases h2
      | some b2 =>
        rw [e1, e2] at h2
        cases h2
        have i1 := hx d List.mem_cons_self b1 e1
        have i2 := any_of (fun z hz => hx z (List.mem_cons_of_mem _ hz)) e2
        show (match PySem.W.exmOne K (.ref (G.cA c)) (.ref (G.cA d)), PySem.W.exmAny K (.ref (G.cA c)) (ds.map fun d => Value.ref (G.cA d)) with
          | some b, some d => some (b || d)
          | _, _ => none) = _
        rw [i1, i2]
theorem any_one {K : PySem.W.Frag} {Wd : Wld} {c d : Str} {b : Bool} (hx : ∀ b, Wd.sub c d = some b → PySem.W.exmOne K (.ref (G.cA c)) (.ref (G.cA d)) = some b) (h : matches_ Wd c [d] = some b) : PySem.W.exmOne K (.ref (G.cA c)) (.ref (G.cA d)) = some b := by
  have h2 : (match Wd.sub c d, some false with
    | some a, some b => some (a || b)
    | _, _ => none) = some b := h
  cases e1 : Wd.sub c d with
  | none =>
    rw [e1] at h2
    cases h2
  | some b1 =>
    rw [e1] at h2
    have h3 : some (b1 || false) = some b := h2
    rw [Bool.or_false] at h3
    cases h3
    exact hx _ e1
/-- a clause's test: the heap may have a tuple more -/
theorem test_run {a : Addr} {oe : Obj} {vs : Array Value} {pins : List (Addr × Obj)} {σ : L2.St} {H : Hp} {s : Shared} {cs : List Str} {te : PySem.Expr} {c : Str} {b : Bool} {Q : Bool → Shared → Prop} {E : Value → Shared → Prop} (ht : TestG X G P cs te) (I : Inv X pins σ H s) (he : s.heap.get? a = some oe) (hcls : oe.cls = .ref (G.cA c))
    (hd : oe.data = .fields vs) (na : H a = none) (nL : a ≠ X.env.locals) (nF : a ∉ X.fs) (hm : matches_ P.wld c cs = some b) (q0 : Q b s) (q1 : ∀ o, Q b { s with heap := s.heap.push o }) :
    wpAny (model X.prog X.w) (X.A.mark (some (.ref a))) (eval te X.env) (fun t s1 => wpAny (model X.prog X.w) (X.A.mark (some (.ref a))) (excMatches (.ref a) t) Q E s1) E s := by
  have S3 := I.suite he hd na nL nF
  cases ht with
  | one h =>
    have LT : PySem.W.Looks (model X.prog X.w) s.heap (typeOf (.ref a)) (.ref (G.cA c)) := fun A Q E s k q => wpAny_typeOf_ref (k _ _ he) (by rw [hcls]; exact q)
    have LM := PySem.W.exm_one (M := model X.prog X.w) I.kIn LT (any_one (h.xm c) hm)
    exact ld_glob (X := X.suite a ((a, oe) :: (X.pn ++ pins))) S3 h.gl h.mg (LM.here q0) h.db
  | @two c1 c2 x1 x2 p1 p2 tp kk h1 h2 =>
    refine wpAny_Tuple (wpAny_items_cons ?_)
    refine ld_glob (X := X.suite a ((a, oe) :: (X.pn ++ pins))) S3 h1.gl h1.mg ?_ h1.db
    refine wpAny_items_cons ?_
    refine ld_glob (X := X.suite a ((a, oe) :: (X.pn ++ pins))) S3 h2.gl h2.mg ?_ h2.db
    refine wpAny_items_nil ⟨by size_fits, ?_⟩
    have kp : ∀ z o, s.heap.get? z = some o → (s.heap.push { cls := .type "tuple", data := .seq [Value.ref (G.cA c1), .ref (G.cA c2)].toArray }).get? z = some o := fun _ _ z => Heap.get?_push_of_some _ z
    have LT : PySem.W.Looks (model X.prog X.w) (s.heap.push { cls := .type "tuple", data := .seq [Value.ref (G.cA c1), .ref (G.cA c2)].toArray }) (typeOf (.ref a)) (.ref (G.cA c)) := fun A Q E s k q => wpAny_typeOf_ref (k _ _ (kp _ _ he)) (by rw [hcls]; exact q)
    have xa := any_of (K := X.K) (Wd := P.wld) (c := c) (ds := [c1, c2]) (fun d hd b hb => by
      rcases List.mem_cons.mp hd with e | e
      · subst e
        exact h1.xm c b hb
      · rw [List.mem_singleton.mp e] at hb ⊢
        exact h2.xm c b hb) hm
    exact (PySem.W.exm_tup2 (I.kIn.keeps kp) LT (Heap.get?_push_size s.heap rfl) xa).here (q1 _)
theorem exH_cons {O : Orc} {Wd : Wld} {cs : List Str} {i : Option Nat} {b : List PSt} {hs : List PH} {x : Ex} {env : Env} {st st' : Sto} {f : Fl} (h : exH O Wd (.mk cs i b :: hs) x env st = some (f, st')) :
    (matches_ Wd x.cls cs = some false ∧ exH O Wd hs x env st = some (f, st')) ∨ (matches_ Wd x.cls cs = some true ∧ suiteAt i (fun e env => exSs { O with exc := e } Wd b env) x env st = some (f, st')) := by
  have h2 : (match matches_ Wd x.cls cs with
    | none => no
    | some true => suiteAt i (fun e env => exSs { O with exc := e } Wd b env) x env
    | some false => exH O Wd hs x env) st = some (f, st') := h
  cases e : matches_ Wd x.cls cs with
  | none =>
    rw [e] at h2
    cases h2
  | some t =>
    rw [e] at h2
    cases t with
    | false => exact .inl ⟨rfl, h2⟩
    | true => exact .inr ⟨rfl, h2⟩
def afterSuite (X : Cx) (pins : List (Addr × Obj)) (D : Ends) (nm : Option Str) (pos' : Pos) (r : Result) (z2 : Shared) : Prop := match r with
  | .ok f => (match nm with
    | none => SP X pins D f z2
    | some n => wpAny (model X.prog X.w) X.A (do bindName X.env n .none; unbindBehindTheSuite X.env n pos') (fun _ z3 => SP X pins D f z3) X.xe z2)
  | .error x => cameBackBy (model X.prog X.w) X.A X.env X.xe x z2
/-- try: body, except ..: suites -/
theorem try_ok {body : List Stmt} {h0 : ExceptHandler} {hds : List ExceptHandler} {hs : List PH} {pos : Pos} {pb : Env → SM} (hst : X.stack = X.env :: X.outer) (hf : X.env.frame = some X.env.locals) (hN : X.N.Nodup) (tk : Takes X W.x) (hW : W.h = none)
    (hb : ∀ (Wx : WX) (pn : List (Addr × Obj)) (xe : Value → Shared → Prop), Takes (X.tr pn xe) Wx → PassesOwn (model X.prog X.w) X.A X.env xe → PSs (X.tr pn xe) body (tS G ⟨Wx, W.h⟩ pb)) (hh : HdG X G P call hs (h0 :: hds)) :
    PS X (.Try body (h0 :: hds) [] [] pos) (tS G W fun env st => match pb env st with
      | some (.ex x e1, s1) => exH (orcX P call ex) P.wld hs x e1 s1
      | r => r) := by
  refine ⟨fun pins s σ H D I q => ?_⟩
  have okX := I.ok
  have frX : X.A.frames = some (X.env :: X.outer) := by
    rw [okX.frames, hst]
  -- the body's reading
  have body0 : tS G ⟨wishH G W (orcX P call ex) P.wld D hs, W.h⟩ pb D σ H := by
    obtain ⟨ρ, st, env, f, st', q1, q2, q3, q4⟩ := q
    have q5 : (match pb env st with
      | some (.ex x e1, s1) => exH (orcX P call ex) P.wld hs x e1 s1
      | r => r) = some (f, st') := q3
    cases eb : pb env st with
    | none =>
      rw [eb] at q5
      cases q5
    | some z =>
      obtain ⟨g, s1⟩ := z
      rw [eb] at q5
      refine ⟨ρ, st, env, g, s1, q1, ⟨q2.len, q2.at_, q2.hx⟩, eb, ?_⟩
      have conv : ∀ {ρ' H' e σ'}, EnvR G ρ' H' (⟨wishH G W (orcX P call ex) P.wld D hs, W.h⟩ : Cw) e σ' → EnvR G ρ' H' W e σ' := fun z => ⟨z.len, z.at_, z.hx⟩
      cases g with
      | ex x e1 => exact fun ρ' H' σ' dd fs' s r1 en xr => ⟨ρ', s1, e1, x, st', f, dd, fs', rfl, rfl, r1, conv en, xr, q5, q4.step s⟩
      | next e =>
        cases q5
        exact fun ρ' H' σ' s r1 en => q4 ρ' H' σ' s r1 (conv en)
      | brk e =>
        cases q5
        exact fun ρ' H' σ' s r1 en => q4 ρ' H' σ' s r1 (conv en)
      | cont e =>
        cases q5
        exact fun ρ' H' σ' s r1 en => q4 ρ' H' σ' s r1 (conv en)
      | ret d =>
        cases q5
        exact q4
  refine wpAny_Try_except (wpAny_mono ((hb (wishH G W (orcX P call ex) P.wld D hs) (X.pn ++ pins) (fun e z1 => wpAny (model X.prog X.w) X.A (noteFrame e X.env) (fun _ z2 => wpAny (model X.prog X.w) X.A (setFlight e none)
    (fun _ z3 => wpAny (model X.prog X.w) X.A (handleBy e X.env (h0 :: hds)) (SP X pins D) X.xe z3) X.xe z2) X.xe z1) (fun u z0 caught => ?_) PassesOwn.looking).run [] s σ H D (I.toTry _) body0) (fun f z1 ended => ?_) fun e z1 left => left)
  · obtain ⟨a, B, zI, pins', σ1, Hx, cls, d, rfl, Jt, nb, up, sky, na, os, ag, wish⟩ := caught
    have J : Inv X pins σ1 Hx zI := Jt.ofTry okX
    have sky1 : Sky B (X.env :: X.outer) a (Zc cls d) X.env.locals z0.heap := by
      rw [← hst]
      exact sky
    show wpAny (model X.prog X.w) X.A (noteFrame (.ref a) X.env) _ _ _
    refine Sky.land Zc.steady frX hf sky1 fun g3 fly3 u3 => ?_
    have notFrame : ∀ {h : Heap} {o : Obj} {fs : Array Value}, h.FunFrames B (X.env :: X.outer) → h.get? a = some o → o.data = .fields fs → a ∉ frs (X.env :: X.outer) := fun {h o fs} ff e1 e2 hm => by
      obtain ⟨_, o2, e3, nn⟩ := ff.mem hm
      rw [e1] at e3
      cases e3
      exact nn _ e2
    obtain ⟨oe0, fs0, g0, _, d0⟩ := fly3.there
    have nfr := notFrame fly3.2.2.1 g0 d0
    have nL : a ≠ X.env.locals := fun e => nfr (List.mem_filterMap.mpr ⟨X.env, List.mem_cons_self, by
      rw [hf, e]⟩)
    have nF : a ∉ X.fs := fun hm => by
      obtain ⟨e1, m1, m2⟩ := List.mem_filterMap.mp hm
      exact nfr (List.mem_filterMap.mpr ⟨e1, List.mem_cons_of_mem _ m1, m2⟩)
    have run : ∀ {hds' : List ExceptHandler} {hs' : List PH}, HdG X G P call hs' hds' → wishH G W (orcX P call ex) P.wld D hs' cls d σ1 Hx → ∀ g, HandSPX.FlyingZ B (X.env :: X.outer) a (Zc cls d) g → zI.heap.UpToSlots g →
        wpAny (model X.prog X.w) X.A (handleBy (.ref a) X.env hds') (SP X pins D) X.xe { z0 with heap := g } := by
      intro hds' hs' hk
      induction hk with
      | nil =>
        intro w g fly ug
        obtain ⟨ρ, st, env, x, st', f, dd, fs', ec, ed, w1, w2, w3, w4, w5⟩ := w
        obtain ⟨rfl, rfl⟩ := fl_of (show fl (.ex x env) st = some (f, st') from w4)
        refine wpAny_handleBy_nil ?_
        have Jg : Inv X pins σ1 Hx { z0 with heap := g } := J.landed nb fly.1 ug os ag
        obtain ⟨k1, k2, k3, oe, vs, T, oT, ts, he, hz, hd, h1, hr⟩ := id fly
        unfold PySem.passOn
        refine wpAny_bind (wpAny_field he hd h1 ?_)
        rw [if_neg (show ¬ ((Value.ref T == Value.none) = true) by simp)]
        have fin : wpAny (model X.prog X.w) X.A (setFlight (.ref a) X.env.frame) (fun _ z4 => wpAny (model X.prog X.w) X.A (throw (.ref a) : Sem Flow) (SP X pins D) X.xe z4) X.xe { z0 with heap := g } := by
          rw [hf]
          refine HandSPX.setFlight_upZ fly fun g4 held u4 => wpAny_throw (tk _ _ ?_)
          refine ⟨a, B, zI, pins, σ1, Hx, cls, d, rfl, J, nb, ug.trans u4, .inr (.inr ?_), na, os, ag, ?_⟩
          · rw [hst]
            exact held
          · rw [ec, ed]
            exact w5 ρ Hx σ1 dd fs' Step.refl w1 w2 w3
        first
          | exact wpAny_bind (wpAny_pure (wpAny_bind fin))
          | exact wpAny_bind fin
      | @cons cs i b te nm s0 ss pos' hs2 hds2 ht hsu hn r ih =>
        intro w g fly ug
        obtain ⟨ρ, st, env, x, st', f, dd, fs', ec, ed, w1, w2, w3, w4, w5⟩ := w
        have Jg : Inv X pins σ1 Hx { z0 with heap := g } := J.landed nb fly.1 ug os ag
        obtain ⟨oeg, vsg, heg, hzg, hdg⟩ := fly.there
        subst ec
        subst ed
        -- the suite
        have suite : suiteAt i (fun e env => exSs (orcX P call e) P.wld b env) x env st = some (f, st') → ∀ g, HandSPX.FlyingZ B (X.env :: X.outer) a (Zc (.ref (G.cA x.cls)) (some dd)) g → zI.heap.UpToSlots g →
            codeAny (model X.prog X.w) (X.A.mark (some (.ref a))) (.handlers (.ref a) [.ExceptHandler none nm (s0 :: ss) pos'] X.env) (afterSuite X pins D nm pos') { z0 with heap := g } := fun hm g fly ug => by
          cases i with
          | none =>
            have hn : nm = none := hn
            subst hn
            have hm2 : suiteEnd none (exSs (orcX P call none) P.wld b env st) = some (f, st') := hm
            refine codeAny_handlers_suite (HandSPX.lands_againZ fly fun g4 fly4 u4 => ?_)
            have J4 : Inv X pins σ1 Hx { z0 with heap := g4 } := J.landed nb fly4.1 (ug.trans u4) os ag
            obtain ⟨oe4, fs4, e4, z4, d4⟩ := fly4.there
            have S4 := J4.suite e4 d4 na nL nF
            obtain ⟨f', ef, pf⟩ := post_suite (i := none) (W' := suiteW none ⟨0, a, dd, x.cls, x.fs⟩) hW hm2 w5
            refine wpAny_mono ((hsu a oe4 (X.pn ++ pins) ⟨0, a, dd, x.cls, x.fs⟩ rfl z4 ⟨_, d4⟩ (fun j e => nomatch e)).run [] _ σ1 Hx D S4 ⟨ρ, st, env, f', st', w1, ⟨w2.len, w2.at_, fun h e => nomatch e⟩, ef, pf⟩) (fun ff z6 ended => ?_) (fun _ _ z => z.elim)
            cases ff with
            | next =>
              obtain ⟨σ6, H6, S6, q6⟩ := ended
              exact ⟨_, _, S6.unsuite okX, q6⟩
            | brk =>
              obtain ⟨σ6, H6, S6, q6⟩ := ended
              exact ⟨_, _, S6.unsuite okX, q6⟩
            | cont =>
              obtain ⟨σ6, H6, S6, q6⟩ := ended
              exact ⟨_, _, S6.unsuite okX, q6⟩
            | ret u =>
              obtain ⟨v6, σ6, H6, S6, r6, q6⟩ := ended
              exact ⟨_, _, _, S6.unsuite okX, r6, q6⟩
          | some i =>
            obtain ⟨n, rfl, n1, n2⟩ := (show ∃ n, nm = some n ∧ X.N[i]? = some n ∧ X.env.kindOf n = some .local from hn)
            have hm2 : (if i < env.length then fun st => suiteEnd (some i) (exSs (orcX P call (some x)) P.wld b (env.set i none) st) else no) st = some (f, st') := hm
            by_cases hi : i < env.length
            · rw [if_pos hi] at hm2
              refine codeAny_handlers_suite_as (HandSPX.lands_againZ fly fun g4 fly4 u4 => ?_)
              have J4 : Inv X pins σ1 Hx { z0 with heap := g4 } := J.landed nb fly4.1 (ug.trans u4) os ag
              obtain ⟨oe4, fs4, e4, z4, d4⟩ := fly4.there
              have S4 := J4.suite e4 d4 na nL nF
              obtain ⟨f', ef, pf⟩ := post_suite (i := some i) (W' := suiteW (some i) ⟨i, a, dd, x.cls, x.fs⟩) hW hm2 w5
              refine store_ok (X := X.suite a ((a, oe4) :: (X.pn ++ pins))) (v := .ref a) S4 hN n1 (.inl n2) rfl (fun z5 S5 => ?_) (.inr n2)
              refine wpAny_mono ((hsu a oe4 (X.pn ++ pins) ⟨i, a, dd, x.cls, x.fs⟩ rfl z4 ⟨_, d4⟩ (fun j e => by cases e; rfl)).run [] z5 _ Hx (endsOf (some i) D) S5 ⟨ρ, st, env.set i none, f', st', w1, env_suite w2 w3 hi, ef, pf⟩) (fun ff z6 ended => ?_) (fun _ _ z => z.elim)
              have behind : ∀ {σ6 : L2.St} {H6 : Hp} {Q : Shared → Prop}, Inv (X.suite a ((a, oe4) :: (X.pn ++ pins))) [] σ6 H6 z6 → (∀ z7, Inv X pins (σ6.set i none) H6 z7 → Q z7) →
                  wpAny (model X.prog X.w) X.A (do bindName X.env n .none; unbindBehindTheSuite X.env n pos') (fun _ z7 => Q z7) X.xe z6 := fun {σ6 H6 Q} S6 hq => gone_ok (S6.unsuite okX) hN n1 n2 hq
              cases ff with
              | next =>
                obtain ⟨σ6, H6, S6, q6⟩ := ended
                exact behind S6 fun z7 J7 => ⟨_, _, J7, q6⟩
              | brk =>
                obtain ⟨σ6, H6, S6, q6⟩ := ended
                exact behind S6 fun z7 J7 => ⟨_, _, J7, q6⟩
              | cont =>
                obtain ⟨σ6, H6, S6, q6⟩ := ended
                exact behind S6 fun z7 J7 => ⟨_, _, J7, q6⟩
              | ret u =>
                obtain ⟨v6, σ6, H6, S6, r6, q6⟩ := ended
                exact behind S6 fun z7 J7 => ⟨_, _, _, J7, r6, q6⟩
            · rw [if_neg hi] at hm2
              cases hm2
        rcases exH_cons w4 with ⟨m1, m2⟩ | ⟨m1, m2⟩
        · have wi : wishH G W (orcX P call ex) P.wld D hs2 (.ref (G.cA x.cls)) (some dd) σ1 Hx := ⟨ρ, st, env, x, st', f, dd, fs', rfl, rfl, w1, w2, w3, m2, w5⟩
          exact wpAny_handleBy_cons (codeAny_handlers_test (test_run (c := x.cls) (b := false) ht Jg heg hzg.1 hdg na nL nF m1 (ih wi g fly ug) fun o => ih wi (g.push o) (fly_push fly) (up_push ug))) (by intro q; cases q)
        · exact wpAny_handleBy_cons (codeAny_handlers_test (test_run (c := x.cls) (b := true) ht Jg heg hzg.1 hdg na nL nF m1 (suite m2 g fly ug) fun o => suite m2 (g.push o) (fly_push fly) (up_push ug))) (by intro q; cases q)
    exact run hh wish g3 fly3 (up.trans u3)
  · cases f with
    | next =>
      obtain ⟨σ1, H1, J1, q1⟩ := ended
      exact wpAny_execs_nil ⟨σ1, H1, J1.ofTry okX, q1⟩
    | brk =>
      obtain ⟨σ1, H1, J1, q1⟩ := ended
      exact ⟨σ1, H1, J1.ofTry okX, q1⟩
    | cont =>
      obtain ⟨σ1, H1, J1, q1⟩ := ended
      exact ⟨σ1, H1, J1.ofTry okX, q1⟩
    | ret u =>
      obtain ⟨v, σ1, H1, J1, r1, q1⟩ := ended
      exact ⟨v, σ1, H1, J1.ofTry okX, r1, q1⟩
end
end Mp
end
section
set_option Elab.async false
set_option linter.all false
set_option maxRecDepth 100000
set_option maxHeartbeats 2000000
/-! Mp: what the evaluator says of a statement holds of the text. -/
namespace Mp
open PySem PySem.Spec PyProof.Rows L2
/-- a store by trees -/
theorem set_ok {X : Cx} {G : Cfg} (hu : X.A.units + 1 < cLine) : PSet X (fun o i v H Q => ∃ ρ st x y z st', Rel G ρ H st ∧ RelP G ρ H x o ∧ RelP G ρ H y i ∧ RelP G ρ H z v ∧ setiD x y z st = some st' ∧ ∀ ρ' H', Step ρ ρ' H H' → Rel G ρ' H' st' → Q H') := by
  intro pins s σ H o i v ov iv u Q I ro ri rv h
  obtain ⟨ρ, st, x, y, z, st', r, hx, hy, hz, e, k⟩ := h
  cases x with
  | ref l =>
    obtain ⟨a, h1, rfl⟩ := hx
    have e2 : (match st[l]? with
      | some (.lst xs) => (lstPut xs y z).map fun ys => st.set l (.lst ys)
      | some (.dk kvs) => (dctPut kvs y z).map fun ks => st.set l (.dk ks)
      | _ => none) = some st' := e
    cases q : st[l]? with
    | none =>
      rw [q] at e2
      cases e2
    | some ob =>
      rw [q] at e2
      cases ob with
      | lst xs =>
        obtain ⟨ys, e3, rfl⟩ := Option.map_eq_some_iff.mp (show (lstPut xs y z).map (fun ys => st.set l (.lst ys)) = some st' from e2)
        cases y with
        | int n =>
          cases hy
          obtain ⟨j, e4, rfl⟩ := Option.map_eq_some_iff.mp (show (ixN xs.length n).map (fun j => xs.set j z) = some ys from e3)
          obtain ⟨vs, h3, h4⟩ := lst_at r q h1
          obtain ⟨s1, r1⟩ := lst_set (vs := vs) r q h1 (h4.set j hz)
          exact set_list pins s σ H _ _ v ov iv u Q I ro ri rv ⟨a, vs, n, j, rfl, rfl, h3, by rw [← h4.length]; exact e4, k ρ _ s1 r1⟩
        | _ => cases e3
      | dk kvs =>
        obtain ⟨ks, e3, rfl⟩ := Option.map_eq_some_iff.mp (show (dctPut kvs y z).map (fun ks => st.set l (.dk ks)) = some st' from e2)
        obtain ⟨key, q2, e4⟩ := Option.bind_eq_some_iff.mp (show (keyOf y).bind (fun k => if kvs.length < 16777216 then some (setD k z kvs) else none) = some ks from e3)
        split at e4
        · rename_i hl
          cases e4
          have hk := keyOf_ok hy q2
          subst hk
          obtain ⟨kvs', h3, h4⟩ := r.at_ l _ a q h1
          obtain ⟨s1, r1⟩ := mut_loc (ho := .dK (putK kvs' key v)) (o' := .dk (setD key z kvs)) r (look_lt q) h1 fun s => ⟨_, upd_same, (h4.put hz).step s⟩
          exact set_dict hu pins s σ H _ _ v ov iv u Q I ro ri rv ⟨a, _, rfl, DPut.k h3 (line_lt (by rw [← h4.length]; exact hl)), k ρ _ s1 r1⟩
        · cases e4
      | _ => cases e2
  | _ => cases e
section
variable {G : Cfg} {P : Prg} {k : Nat} {X : Cx} {W : Cw} {ex : Option Ex} {S : Sc}
theorem sw_none {e : PySem.Expr} (h : isComp e = false) {l : Nat} {t : Option PySem.Expr} {env : PySem.Env} : swapsWith e t l env = pure false := by
  cases e <;> first | rfl | cases h
theorem sw_attr {e o : PySem.Expr} {f : Str} {p : Pos} {l : Nat} {env : PySem.Env} : swapsWith e (some (.Attribute o f p)) l env = pure false := by
  cases e <;> rfl
theorem sw_sub {e o i : PySem.Expr} {p : Pos} {l : Nat} {env : PySem.Env} : swapsWith e (some (.Subscript o i p)) l env = pure false := by
  cases e <;> rfl
theorem sw_stores {t e : PySem.Expr} (h : (!(isTup t && isTup e)) = true) {env : PySem.Env} (hl : ∀ es p, t ≠ .List es p) : swappedStores [t] e env = pure none := by
  cases t <;> first | rfl | exact absurd rfl (hl _ _) | (cases e <;> first | rfl | cases h)
/-- a def's context -/
structure Gs (G : Cfg) (P : Prg) (k : Nat) (S : Sc) (X : Cx) (W : Cw) (ex : Option Ex) : Prop extends Gd G P k S X W ex where
  po : PassesOwn (model X.prog X.w) X.A X.env X.xe
  stk : X.stack = X.env :: X.outer
  frm : X.env.frame = some X.env.locals
theorem noHnd_of (g : Gs G P k S X W ex) (h : noHnd S = true) (sl : List Nat) : NoHnd W sl := fun q hq => by
  have := g.hn q hq
  unfold noHnd at h
  rw [this] at h
  cases h
theorem if_run {O : Orc} {c : PX} {env : Env} {st : Sto} {a b : SM} : (testM O c env).run env (fun t => if t = true then a else b) st = (evE O c env).run env (fun x => (onSt fun st => truth st x).run env fun t => match t with
    | true => a
    | false => b) st := by
  unfold testM M.run M.bind onSt
  dsimp only
  cases evE O c env st with
  | none => rfl
  | some q =>
    obtain ⟨r, s⟩ := q
    cases r with
    | ex x => rfl
    | ok x =>
      dsimp only
      cases truth s x with
      | none => rfl
      | some t => cases t <;> rfl
/-- a for's invariant -/
def ForInv (G : Cfg) (W : Cw) (ρ1 : Lo) (H1 : Hp) (D : Ends) (go : List Mp.D → Env → SM) (xs : List Mp.D) (i : Nat) (σ : L2.St) (H : Hp) : Prop := ∃ ρ st env f st', Rel G ρ H st ∧ EnvR G ρ H W env σ ∧ Step ρ1 ρ H1 H ∧ go (xs.drop i) env st = some (f, st') ∧ PostS G W ρ H D f st'
theorem sm_hold {h : Sto → Bool} {m : SM} {st st' : Sto} {r : Fl} (e : SM.hold h m st = some (r, st')) : h st = true ∧ m st = some (r, st') := by
  have e2 : (match h st with
    | true => m st
    | false => none) = some (r, st') := e
  cases q : h st with
  | true =>
    rw [q] at e2
    exact ⟨rfl, e2⟩
  | false =>
    rw [q] at e2
    cases e2
theorem for_rd {src : PSrc} {tg : Tg} {b : List PSt} {O : Orc} {Wd : Wld} {D : Ends} {σ : L2.St} {H : Hp} (q : tS G W (exS O Wd (.fors src tg b)) D σ H) : tFor (tI G W O src) (gP G W tg) (tS G W (exSs O Wd b)) D σ H := by
  obtain ⟨ρ, st, env, r, st', q1, q2, q3, q4⟩ := q
  let F : Mp.D → Env → SM := fun x env => match put1 tg x env with
    | some env' => exSs O Wd b env'
    | none => no
  rcases run_some (show (evI O src env).run env (fun s => forGo (heldD s.1 s.2) F s.2 env) st = some (r, st') from q3) with ⟨⟨d, xs⟩, s1, f1, f2⟩ | ⟨x, f1, rfl⟩
  · refine ⟨ρ, st, env, .ok (d, xs), s1, q1, q2, f1, fun ρ1 H1 J sp1 r1 wk => ?_⟩
    obtain ⟨Gp, Y, w, hG, hY⟩ := wk
    have held : ∀ {i env s}, forGo (heldD d xs) F (xs.drop i) env s = some (r, st') → heldD d xs s = true := fun {i env s} e => by
      cases q : xs.drop i with
      | nil =>
        rw [q] at e
        exact (sm_hold e).1
      | cons x t =>
        rw [q] at e
        exact (sm_hold e).1
    refine for_it w (Pv := ForInv G W ρ1 H1 D (forGo (heldD d xs) F) xs) ⟨ρ1, s1, env, r, st', r1, q2.step sp1, Step.refl, by rw [List.drop_zero]; exact f2, q4.step sp1⟩ ?_ ?_ ?_
    · rintro i σ2 H2 hi ⟨ρ2, s2, env2, f, s3, a1, a2, a3, a4, a5⟩
      have hh : heldD d xs s2 = true := by
        cases q : xs.drop i with
        | nil =>
          rw [q] at a4
          exact (sm_hold a4).1
        | cons x t =>
          rw [q] at a4
          exact (sm_hold a4).1
      exact hG ρ2 H2 s2 a3.mv a1 hh
    · rintro i x σ2 H2 H3 hi ⟨ρ2, s2, env2, f, s3, a1, a2, a3, a4, a5⟩ y
      have ed : xs.drop i = xs[i] :: xs.drop (i + 1) := List.drop_eq_getElem_cons hi
      rw [ed] at a4
      obtain ⟨b1, b2⟩ := sm_hold (show SM.hold (heldD d xs) (fun st => match F xs[i] env2 st with
        | some (.next e, s) => forGo (heldD d xs) F (xs.drop (i + 1)) e s
        | some (.cont e, s) => forGo (heldD d xs) F (xs.drop (i + 1)) e s
        | some (.brk e, s) => some (.next e, s)
        | r => r) s2 = some (f, s3) from a4)
      obtain ⟨y0, c1, c2, c3, c4⟩ := hY i ρ2 _ s2 x H3 hi a3.mv a1 b1 y
      rw [List.getElem?_eq_getElem hi] at c1
      cases c1
      have k1 := a2.step c2
      cases ep : put1 tg xs[i] env2 with
      | none =>
        have e0 : F xs[i] env2 s2 = none := by
          show (match put1 tg xs[i] env2 with
            | some env' => exSs O Wd b env'
            | none => no) s2 = none
          rw [ep]
          rfl
        rw [e0] at b2
        cases b2
      | some env' =>
        have e0 : F xs[i] env2 s2 = exSs O Wd b env' s2 := by
          show (match put1 tg xs[i] env2 with
            | some env' => exSs O Wd b env'
            | none => no) s2 = _
          rw [ep]
        rw [e0] at b2
        refine ⟨ρ2, s2, env2, xs[i], env', c3, k1, c4, ep, fun ρ4 H4 σ4 s4 r4 e4 _ => ?_⟩
        have up4 := c2.trans s4
        cases eb : exSs O Wd b env' s2 with
        | none =>
          rw [eb] at b2
          cases b2
        | some z =>
          obtain ⟨g, s5⟩ := z
          rw [eb] at b2
          refine ⟨ρ4, s2, env', g, s5, r4, e4, eb, ?_⟩
          have a5' := a5.step up4
          cases g with
          | next e => exact fun ρ' H' σ' s r1 e1 => ⟨ρ', s5, e, f, s3, r1, e1, a3.trans (up4.trans s), b2, a5'.step s⟩
          | cont e => exact fun ρ' H' σ' s r1 e1 => ⟨ρ', s5, e, f, s3, r1, e1, a3.trans (up4.trans s), b2, a5'.step s⟩
          | brk e =>
            cases b2
            exact a5'
          | ret d =>
            cases b2
            exact a5'
          | ex x e =>
            cases b2
            exact a5'
    · rintro σ2 H2 ⟨ρ2, s2, env2, f, s3, a1, a2, a3, a4, a5⟩
      rw [List.drop_length] at a4
      obtain ⟨_, b2⟩ := sm_hold a4
      obtain ⟨rfl, rfl⟩ := fl_of b2
      exact a5 ρ2 H2 σ2 Step.refl a1 a2
  · exact ⟨ρ, st, env, .ex x, st', q1, q2, f1, fun ρ' H' dd fs' s r' x' => q4 ρ' H' σ dd fs' s r' (q2.step s) x'⟩
theorem while_rd {c : PX} {b : List PSt} {O : Orc} {Wd : Wld} {D : Ends} {σ : L2.St} {H : Hp} (q : tS G W (exS O Wd (.whl c b)) D σ H) : tWhile (tT G W O c) (tS G W (exSs O Wd b)) D σ H := by
  obtain ⟨ρ, st, env, r, st', q1, q2, q3, q4⟩ := q
  refine ⟨fun m σ H => ∃ ρ s env, Rel G ρ H s ∧ EnvR G ρ H W env σ ∧ whlGo (fun env => testM O c env) (fun env => exSs O Wd b env) m env s = some (r, st') ∧ PostS G W ρ H D r st', ⟨Wd.fuel, ρ, st, env, q1, q2, q3, q4⟩, ?_⟩
  rintro m σ2 H2 ⟨ρ2, s2, env2, a1, a2, a3, a4⟩
  cases m with
  | zero => cases a3
  | succ m =>
    refine tS_run a1 a2 (show (testM O c env2).run env2 (fun t => match t with
      | false => fl (.next env2)
      | true => fun st => match exSs O Wd b env2 st with
        | some (.next e, s) => whlGo (fun env => testM O c env) (fun env => exSs O Wd b env) m e s
        | some (.cont e, s) => whlGo (fun env => testM O c env) (fun env => exSs O Wd b env) m e s
        | some (.brk e, s) => some (.next e, s)
        | r => r) s2 = some (r, st') from a3) a4 fun t s1 ρ1 H1 v hm f1 s r1 rp e1 p1 => ?_
    have rp : t = v := rp
    subst rp
    cases t with
    | false =>
      obtain ⟨rfl, rfl⟩ := fl_of f1
      rw [if_neg Bool.false_ne_true]
      exact p1 ρ1 H1 σ2 Step.refl r1 e1
    | true =>
      rw [if_pos rfl]
      refine ⟨fun σ' H' => ∃ ρ s env, Rel G ρ H' s ∧ EnvR G ρ H' W env σ' ∧ whlGo (fun env => testM O c env) (fun env => exSs O Wd b env) m env s = some (r, st') ∧ PostS G W ρ H' D r st', fun σ' H' h => ⟨m, Nat.lt_succ_self m, h⟩, ?_⟩
      have f2 : (match exSs O Wd b env2 s1 with
        | some (.next e, s) => whlGo (fun env => testM O c env) (fun env => exSs O Wd b env) m e s
        | some (.cont e, s) => whlGo (fun env => testM O c env) (fun env => exSs O Wd b env) m e s
        | some (.brk e, s) => some (.next e, s)
        | r => r) = some (r, st') := f1
      cases eb : exSs O Wd b env2 s1 with
      | none =>
        rw [eb] at f2
        cases f2
      | some z =>
        obtain ⟨g, s5⟩ := z
        rw [eb] at f2
        refine ⟨ρ1, s1, env2, g, s5, r1, e1, eb, ?_⟩
        cases g with
        | next e => exact fun ρ' H' σ' s r2 e2 => ⟨ρ', s5, e, r2, e2, f2, p1.step s⟩
        | cont e => exact fun ρ' H' σ' s r2 e2 => ⟨ρ', s5, e, r2, e2, f2, p1.step s⟩
        | brk e =>
          cases f2
          exact p1
        | ret d =>
          cases f2
          exact p1
        | ex x e =>
          cases f2
          exact p1
theorem RelPf.app {ρ : Lo} {H : Hp} : ∀ {d e : List (Str × D)} {v u : List (Str × V)}, RelPf G ρ H d v → RelPf G ρ H e u → RelPf G ρ H (d ++ e) (v ++ u)
  | [], _, _, _, h, q => by
    cases h
    exact q
  | (k, x) :: _, _, _, _, h, q => by
    obtain ⟨v, t, rfl, h1, h2⟩ := h
    exact ⟨v, t ++ _, rfl, h1, h2.app q⟩
theorem RelPf.rev {ρ : Lo} {H : Hp} : ∀ {d : List (Str × D)} {v : List (Str × V)}, RelPf G ρ H d v → RelPf G ρ H d.reverse v.reverse
  | [], _, h => by
    cases h
    rfl
  | (k, x) :: _, _, h => by
    obtain ⟨v, t, rfl, h1, h2⟩ := h
    rw [List.reverse_cons, List.reverse_cons]
    exact (h2.rev).app ⟨v, [], rfl, h1, rfl⟩
theorem mkFs_ok {ρ : Lo} {H : Hp} {w : Str} {fs : List Str} {xs : List D} {vs : List V} (h : RelPs G ρ H xs vs) : RelPf G ρ H (mkFs (D.str w) fs xs) (mkFs (V.str w) fs vs) := by
  have z : ∀ {fs : List Str} {xs : List D} {vs : List V}, RelPs G ρ H xs vs → RelPf G ρ H (fs.zip xs) (fs.zip vs) := by
    intro fs
    induction fs with
    | nil => intro xs vs h; rfl
    | cons f fs ih =>
      intro xs vs h
      cases xs with
      | nil =>
        cases h
        rfl
      | cons x xs =>
        obtain ⟨v, t, rfl, h1, h2⟩ := h
        exact ⟨v, _, rfl, h1, ih h2⟩
  unfold mkFs
  exact (z h).rev.app ⟨.str w, [], rfl, rfl, rfl⟩
theorem name_of (g : Good G P k S X) {c x : Str} (h1 : gloB S.sc x = true) (h2 : (!isDunder x) = true) (h3 : S.T.hcls.contains x = true) (e : x = c) : NameG X G P c x := by
  subst e
  exact ⟨glo_of g h1, (dun_of h2).1, g.fx.hs x h3, fun e b q => g.fx.exm e x b q h3⟩
theorem test_of (g : Good G P k S X) {cs : List Str} {te : PySem.Expr} (h : okHt S cs te = true) : TestG X G P cs te := by
  have one : ∀ {c : Str} {cs : List Str} {x : Str} {p : Pos} {es : List PySem.Expr}, okHc S (c :: cs) (.Name x p :: es) = true → NameG X G P c x ∧ okHc S cs es = true := fun {c cs x p es} h => by
    obtain ⟨h1, h2⟩ := band h
    obtain ⟨h3, h4⟩ := band h1
    obtain ⟨h5, h6⟩ := band h3
    obtain ⟨h7, h8⟩ := band h5
    exact ⟨name_of g h8 h6 h4 (of_decide_eq_true h7), h2⟩
  cases te with
  | Name x p =>
    cases cs with
    | nil => cases h
    | cons c cs =>
      obtain ⟨h1, h2⟩ := one (show okHc S (c :: cs) [.Name x p] = true from h)
      cases cs with
      | nil => exact .one h1
      | cons _ _ => cases h2
  | Tuple es kk tp =>
    obtain ⟨h1, h2⟩ := band h
    have hl := of_decide_eq_true h2
    cases es with
    | nil => cases hl
    | cons e1 es => cases es with
      | nil => cases hl
      | cons e2 es => cases es with
        | cons _ _ => simp at hl
        | nil =>
          cases e1 with
          | Name x1 p1 =>
            cases cs with
            | nil => cases h1
            | cons c1 cs =>
              obtain ⟨a1, a2⟩ := one h1
              cases e2 with
              | Name x2 p2 =>
                cases cs with
                | nil => cases a2
                | cons c2 cs =>
                  obtain ⟨b1, b2⟩ := one a2
                  cases cs with
                  | nil => exact .two a1 b1
                  | cons _ _ => cases b2
              | _ => cases cs <;> cases a2
          | _ => cases cs <;> cases h1
  | _ => cases h
theorem PSs_never {ss : List Stmt} {t : TS} (h : ∀ D σ H, ¬ t D σ H) : PSs X ss t := ⟨fun pins s σ H D I q => (h D σ H q).elim⟩
theorem PS_never {ss : Stmt} {t : TS} (h : ∀ D σ H, ¬ t D σ H) : PS X ss t := ⟨fun pins s σ H D I q => (h D σ H q).elim⟩
/-- what a comprehension in a store asks -/
theorem lc_parts {own : List Nat} {src : PSrc} {tg : Tg} {cs : List PX} {p : PX} {elt : PySem.Expr} {gens : List Comprehension} {scope : Scope} {q : Pos} (g : Gd G P k S X W ex) (h : okF S (.lc own src tg cs p) (.ListComp elt gens scope q) = true) :
    ∃ t iter ifs, gens = [⟨t, iter, ifs, 0⟩] ∧ X.calm = true ∧ W.h = none ∧ (∀ i ∈ tgSl tg, i ∈ own) ∧ BlkOk X.N X.env.scope scope (ownN S own) ∧ (ownN S own).map (·.2) = own ∧ PI X t iter (tI G W (orcX P (callF P k) ex) src) ∧
      (∀ (s : Shared) (H : Hp) (C : Addr) (cl : List (Str × Addr)) (fp : List Addr), PG (X.blk s H scope (compEnvC scope cl C X.env) fp) t (gP G ⟨fun _ _ _ _ => False, none⟩ tg)) ∧
      (∀ (s : Shared) (H : Hp) (C : Addr) (cl : List (Str × Addr)) (fp : List Addr), PTs (X.blk s H scope (compEnvC scope cl C X.env) fp) ifs (tG G ⟨fun _ _ _ _ => False, none⟩ relB (evCs (orcX P (callF P k) ex) cs))) ∧
      (∀ (s : Shared) (H : Hp) (C : Addr) (cl : List (Str × Addr)) (fp : List Addr), PE (X.blk s H scope (compEnvC scope cl C X.env) fp) elt (tE G ⟨fun _ _ _ _ => False, none⟩ (orcX P (callF P k) ex) p)) ∧ ∀ x, foldedSetIterable iter X.env x = pure x := by
  cases gens with
  | nil => cases h
  | cons gn t => cases t with
    | cons _ _ =>
      cases gn
      cases h
    | nil =>
      obtain ⟨t, iter, ifs, z⟩ := gn
      obtain ⟨h, ha⟩ := band h
      obtain ⟨h, hcs⟩ := band h
      obtain ⟨h, htg⟩ := band h
      obtain ⟨h, hown⟩ := band h
      obtain ⟨h, hblk⟩ := band h
      obtain ⟨h, hsl⟩ := band h
      obtain ⟨h, hsrc⟩ := band h
      obtain ⟨h, hpl⟩ := band h
      obtain ⟨h, hcl⟩ := band h
      obtain ⟨h, hhn⟩ := band h
      obtain ⟨hz, hcalm⟩ := band h
      have hz := of_decide_eq_true hz
      subst hz
      have hc := g.calm hcalm
      have hown := of_decide_eq_true hown
      have hnd : S.hnd = none := by
        cases q : S.hnd with
        | none => rfl
        | some _ =>
          rw [q] at hhn
          cases hhn
      have hW : W.h = none := by
        cases q : W.h with
        | none => rfl
        | some k =>
          have := g.hn k q
          rw [hnd] at this
          cases this
      have gb : ∀ (s : Shared) (H : Hp) (C : Addr) (cl : List (Str × Addr)) (fp : List Addr), Gd G P k (S.blk scope) (X.blk s H scope (compEnvC scope cl C X.env) fp) ⟨fun _ _ _ _ => False, none⟩ ex := fun s H C cl fp =>
        { K := g.K, w := g.w, N := g.N, nd := g.nd, calm := g.calm
          sc := by
            show relS scope X.env.scope = relS scope S.sc
            rw [g.sc]
          fn := fun x hx => hx
          room := g.room
          un := g.un
          fx := g.fx.of rfl rfl rfl rfl rfl
          tk := takes_none5
          hd := fun i hi => by
            have hi : S.hnd = some i := hi
            rw [hnd] at hi
            cases hi
          hn := fun _ q => nomatch q }
      have nh : NoHnd (⟨fun _ _ _ _ => False, none⟩ : Cw) (tgSl tg) := fun _ q => nomatch q
      refine ⟨t, iter, ifs, rfl, hc, hW, fun i hi => ?_, blkOk_by (N := X.N) (sc := X.env.scope) (scope := scope) (own := ownN S own) (by rw [g.N, g.sc]; exact hblk), hown, sI src g hsrc, fun s H C cl fp => sTg tg (gb s H C cl fp).toGood hc nh htg, fun s H C cl fp => ?_, fun s H C cl fp => (sE p (gb s H C cl fp) ha).1, plain_folded hpl X.env⟩
      · have := List.all_eq_true.mp hsl i hi
        simpa using this
      · have hcl := of_decide_eq_true hcl
        cases cs with
        | nil =>
          cases ifs with
          | nil => exact pts0
          | cons _ _ => cases hcs
        | cons c t => cases t with
          | cons _ _ => simp at hcl
          | nil => cases ifs with
            | nil => cases hcs
            | cons e1 t => cases t with
              | nil => exact pts1 (sE c (gb s H C cl fp) (band hcs).1).2
              | cons _ _ =>
                have := (band hcs).2
                cases this
/-- what a comprehension in a store asks -/
theorem dc_parts {own : List Nat} {src : PSrc} {tg : Tg} {cs : List PX} {pk p : PX} {kx elt : PySem.Expr} {gens : List Comprehension} {scope : Scope} {q : Pos} (g : Gd G P k S X W ex) (h : okF S (.dc own src tg cs pk p) (.DictComp kx elt gens scope q) = true) :
    ∃ t iter ifs, gens = [⟨t, iter, ifs, 0⟩] ∧ X.calm = true ∧ W.h = none ∧ (∀ i ∈ tgSl tg, i ∈ own) ∧ BlkOk X.N X.env.scope scope (ownN S own) ∧ (ownN S own).map (·.2) = own ∧ PI X t iter (tI G W (orcX P (callF P k) ex) src) ∧
      (∀ (s : Shared) (H : Hp) (C : Addr) (cl : List (Str × Addr)) (fp : List Addr), PG (X.blk s H scope (compEnvC scope cl C X.env) fp) t (gP G ⟨fun _ _ _ _ => False, none⟩ tg)) ∧
      (∀ (s : Shared) (H : Hp) (C : Addr) (cl : List (Str × Addr)) (fp : List Addr), PTs (X.blk s H scope (compEnvC scope cl C X.env) fp) ifs (tG G ⟨fun _ _ _ _ => False, none⟩ relB (evCs (orcX P (callF P k) ex) cs))) ∧
      (∀ (s : Shared) (H : Hp) (C : Addr) (cl : List (Str × Addr)) (fp : List Addr), PE (X.blk s H scope (compEnvC scope cl C X.env) fp) kx (tE G ⟨fun _ _ _ _ => False, none⟩ (orcX P (callF P k) ex) pk)) ∧
      (∀ (s : Shared) (H : Hp) (C : Addr) (cl : List (Str × Addr)) (fp : List Addr), PE (X.blk s H scope (compEnvC scope cl C X.env) fp) elt (tE G ⟨fun _ _ _ _ => False, none⟩ (orcX P (callF P k) ex) p)) ∧ ∀ x, foldedSetIterable iter X.env x = pure x := by
  cases gens with
  | nil => cases h
  | cons gn t => cases t with
    | cons _ _ =>
      cases gn
      cases h
    | nil =>
      obtain ⟨t, iter, ifs, z⟩ := gn
      obtain ⟨h, ha⟩ := band h
      obtain ⟨h, hk⟩ := band h
      obtain ⟨h, hcs⟩ := band h
      obtain ⟨h, htg⟩ := band h
      obtain ⟨h, hown⟩ := band h
      obtain ⟨h, hblk⟩ := band h
      obtain ⟨h, hsl⟩ := band h
      obtain ⟨h, hsrc⟩ := band h
      obtain ⟨h, hpl⟩ := band h
      obtain ⟨h, hcl⟩ := band h
      obtain ⟨h, hhn⟩ := band h
      obtain ⟨hz, hcalm⟩ := band h
      have hz := of_decide_eq_true hz
      subst hz
      have hc := g.calm hcalm
      have hown := of_decide_eq_true hown
      have hnd : S.hnd = none := by
        cases q : S.hnd with
        | none => rfl
        | some _ =>
          rw [q] at hhn
          cases hhn
      have hW : W.h = none := by
        cases q : W.h with
        | none => rfl
        | some k =>
          have := g.hn k q
          rw [hnd] at this
          cases this
      have gb : ∀ (s : Shared) (H : Hp) (C : Addr) (cl : List (Str × Addr)) (fp : List Addr), Gd G P k (S.blk scope) (X.blk s H scope (compEnvC scope cl C X.env) fp) ⟨fun _ _ _ _ => False, none⟩ ex := fun s H C cl fp =>
        { K := g.K, w := g.w, N := g.N, nd := g.nd, calm := g.calm
          sc := by
            show relS scope X.env.scope = relS scope S.sc
            rw [g.sc]
          fn := fun x hx => hx
          room := g.room
          un := g.un
          fx := g.fx.of rfl rfl rfl rfl rfl
          tk := takes_none5
          hd := fun i hi => by
            have hi : S.hnd = some i := hi
            rw [hnd] at hi
            cases hi
          hn := fun _ q => nomatch q }
      have nh : NoHnd (⟨fun _ _ _ _ => False, none⟩ : Cw) (tgSl tg) := fun _ q => nomatch q
      refine ⟨t, iter, ifs, rfl, hc, hW, fun i hi => ?_, blkOk_by (N := X.N) (sc := X.env.scope) (scope := scope) (own := ownN S own) (by rw [g.N, g.sc]; exact hblk), hown, sI src g hsrc, fun s H C cl fp => sTg tg (gb s H C cl fp).toGood hc nh htg, fun s H C cl fp => ?_, fun s H C cl fp => (sE pk (gb s H C cl fp) hk).1, fun s H C cl fp => (sE p (gb s H C cl fp) ha).1, plain_folded hpl X.env⟩
      · have := List.all_eq_true.mp hsl i hi
        simpa using this
      · have hcl := of_decide_eq_true hcl
        cases cs with
        | nil =>
          cases ifs with
          | nil => exact pts0
          | cons _ _ => cases hcs
        | cons c t => cases t with
          | cons _ _ => simp at hcl
          | nil => cases ifs with
            | nil => cases hcs
            | cons e1 t => cases t with
              | nil => exact pts1 (sE c (gb s H C cl fp) (band hcs).1).2
              | cons _ _ =>
                have := (band hcs).2
                cases this
theorem ps_setDc {i : Nat} {y : Str} {py : Pos} {kx vx tg iter : PySem.Expr} {ifs : List PySem.Expr} {scope : Scope} {own : List (Str × Nat)} {pos spos : Pos} {wi : TI} {g : TG} {tt : TT} {tk tv : TE} (hc : X.calm = true) (hN : X.N.Nodup) (hy : X.N[i]? = some y) (hyl : X.env.scope.names.lookup y = some .local)
    (hsw : swapsWith (.DictComp kx vx [⟨tg, iter, ifs, 0⟩] scope pos) (some (.Name y py)) spos.line X.env = pure true) (hi : PI X tg iter wi) (ok : BlkOk X.N X.env.scope scope own)
    (hg : ∀ (s : Shared) (H : Hp) (C : Addr) (cl : List (Str × Addr)) (fp : List Addr), PG (X.blk s H scope (compEnvC scope cl C X.env) fp) tg g) (ht : ∀ (s : Shared) (H : Hp) (C : Addr) (cl : List (Str × Addr)) (fp : List Addr), PTs (X.blk s H scope (compEnvC scope cl C X.env) fp) ifs tt)
    (hk : ∀ (s : Shared) (H : Hp) (C : Addr) (cl : List (Str × Addr)) (fp : List Addr), PE (X.blk s H scope (compEnvC scope cl C X.env) fp) kx tk)
    (he : ∀ (s : Shared) (H : Hp) (C : Addr) (cl : List (Str × Addr)) (fp : List Addr), PE (X.blk s H scope (compEnvC scope cl C X.env) fp) vx tv) (hs : ∀ x, foldedSetIterable iter X.env x = pure x) :
    PS X (.Assign [.Name y py] (.DictComp kx vx [⟨tg, iter, ifs, 0⟩] scope pos) spos) (tAsg (tDc wi g tt tk tv (own.map (·.2))) (gName i)) := by
  refine ⟨fun pins s σ H D I h => ?_⟩
  rw [exec_Assign_Name_used _ _ _ _ hsw]
  refine wpAny_bind (wpAny_standAt (wpAny_bind ?_))
  show wpAny _ X.A (do let _ ← comprehension (.DictComp kx vx [⟨tg, iter, ifs, 0⟩] scope pos) scope X.env (firstIterPos [⟨tg, iter, ifs, 0⟩] pos) newDict false (eval iter X.env) (some (assign (.Name y py) X.env))) _ _ s
  have h : tDc wi g tt tk tv (own.map (·.2)) σ H (fun x H1 => gName i x σ H1 D.nx) := h
  refine wpAny_bind (thn (dc_core (Qf := fun _ s' => SP X pins D .next s') hc hN I hi ok hg ht hk he hs h fun L C s' m H' I' q hn f => ?_) fun _ s' hq => wpAny_pure (wpAny_pure hq))
  show wpAny _ _ (assign (.Name y py) X.env (.ref L)) _ _ _
  refine wpAny_assign_Name (store_ok2 (v := V.ref L) I' hN hy (.inl hyl) rfl (fun s2 I2 ⟨a, sb, ha⟩ => ?_) (.inr hyl))
  obtain ⟨f0, f1, f2, f3, f4, f5⟩ := f
  have haC : C ≠ a := by
    rcases ha with z | z
    · rw [z]; exact f1
    · exact fun e => f4 y a z e.symm
  refine ⟨m, hn.sameBut sb haC, fun h3 sb3 => ?_⟩
  exact ⟨_, H', I2.turned (t' := s2.toks) (fun b o hb e => (sb3.2 b hb).trans e) f0 f1 f3 f4 f5, q⟩
/-- a fresh list that is stored, by value or at a location -/
theorem asg_fresh {f : PF} {i : Nat} {D : Ends} {σ : L2.St} {H : Hp} {O : Orc} {Wd : Wld} {e : PX} (he : e = .val f ∨ e = .loc f) (nh : NoHnd W [i]) (q : tS G W (exS O Wd (.asg (.nm i) e)) D σ H) : tF G W O f σ H fun x H1 => gName i x σ H1 D.nx := by
  have key : tE G W O e σ H fun x H1 => gName i x σ H1 D.nx := by
    obtain ⟨ρ, st, env, r, st', q1, q2, q3, q4⟩ := q
    refine tS_run q1 q2 (show (evE O e env).run env (fun d => match put1 (.nm i) d env with
      | some env' => fl (.next env')
      | none => no) st = some (r, st') from q3) q4 fun x s1 ρ1 H1 v hm f1 s r1 rp e1 p1 => ?_
    cases ep : put1 (.nm i) x env with
    | none =>
      rw [ep] at f1
      cases f1
    | some env' =>
      rw [ep] at f1
      obtain ⟨rfl, rfl⟩ := fl_of f1
      have ep2 : (if i < env.length then some (env.set i (some x)) else none) = some env' := ep
      split at ep2
      · rename_i hi
        cases ep2
        exact p1 ρ1 H1 _ Step.refl r1 (e1.put hi rp fun k hk e => nh k hk (by rw [e]; exact List.mem_singleton.mpr rfl))
      · cases ep2
  rcases he with rfl | rfl
  · exact tF_val key
  · exact tF_loc key
/-- target = e -/
theorem asg_rd {t : Tg} {e : PX} {D : Ends} {σ : L2.St} {H : Hp} {O : Orc} {Wd : Wld} (q : tS G W (exS O Wd (.asg t e)) D σ H) : tAsg (tE G W O e) (gP G W t) D σ H := by
  obtain ⟨ρ, st, env, r, st', q1, q2, q3, q4⟩ := q
  refine tS_run q1 q2 (show (evE O e env).run env (fun d => match put1 t d env with
    | some env' => fl (.next env')
    | none => no) st = some (r, st') from q3) q4 fun x s1 ρ1 H1 v hm f1 s r1 rp e1 p1 => ?_
  cases ep : put1 t x env with
  | none =>
    rw [ep] at f1
    cases f1
  | some env' =>
    rw [ep] at f1
    obtain ⟨rfl, rfl⟩ := fl_of f1
    exact ⟨ρ1, _, env, x, env', r1, e1, rp, ep, fun ρ' H' σ' s' r' e' _ => p1 ρ' H' σ' s' r' e'⟩
theorem swB_t {scope : Scope} {x : Str} {px py : Pos} (hs : X.env.scope = S.sc) (hk : X.env.scope.kind = .function) (h : swB S scope x px py = true) {elt : PySem.Expr} {gens : List Comprehension} {line : Nat} :
    swapsWith (.ListComp elt gens scope py) (some (.Name x px)) line X.env = pure true ∧ X.env.scope.names.lookup x = some .local := by
  obtain ⟨h1, h2⟩ := band h
  obtain ⟨h3, h4⟩ := band h1
  have hl : X.env.scope.names.lookup x = some .local := by
    rw [hs]
    cases q : S.sc.names.lookup x with
    | none =>
      rw [q] at h3
      cases h3
    | some z =>
      rw [q] at h3
      cases z <;> first | rfl | cases h3
  refine ⟨?_, hl⟩
  have e : swapsWith (.ListComp elt gens scope py) (some (.Name x px)) line X.env = pure (X.env.blockKind == .function && X.env.kindOf x == some .local && px.line == py.line && !(scope.names.any fun p => p.1 == x && (p.2 == .local || p.2 == .cell))) := rfl
  have hb : (X.env.blockKind == .function) = true := by
    unfold PySem.Env.blockKind
    rw [hk]
    rfl
  have hk2 : (X.env.kindOf x == some .local) = true := by
    show (X.env.scope.names.lookup x == some .local) = true
    rw [hl]
    rfl
  rw [e, hb, hk2, h4, h2]
  rfl
theorem swB_f {scope : Scope} {x : Str} {px py : Pos} (hs : X.env.scope = S.sc) (hk : X.env.scope.kind = .function) (h : swB S scope x px py = false) {elt : PySem.Expr} {gens : List Comprehension} {line : Nat} :
    swapsWith (.ListComp elt gens scope py) (some (.Name x px)) line X.env = pure false := by
  have e : swapsWith (.ListComp elt gens scope py) (some (.Name x px)) line X.env = pure (X.env.blockKind == .function && X.env.kindOf x == some .local && px.line == py.line && !(scope.names.any fun p => p.1 == x && (p.2 == .local || p.2 == .cell))) := rfl
  have hb : (X.env.blockKind == .function) = true := by
    unfold PySem.Env.blockKind
    rw [hk]
    rfl
  have hk2 : (X.env.kindOf x == some .local) = (match S.sc.names.lookup x with
    | some .local => true
    | _ => false) := by
    show (X.env.scope.names.lookup x == some .local) = _
    rw [hs]
    cases S.sc.names.lookup x with
    | none => rfl
    | some z => cases z <;> rfl
  rw [e, hb, hk2, Bool.true_and]
  exact congrArg pure h
theorem swB_tD {scope : Scope} {x : Str} {px py : Pos} (hs : X.env.scope = S.sc) (hk : X.env.scope.kind = .function) (h : swB S scope x px py = true) {kx elt : PySem.Expr} {gens : List Comprehension} {line : Nat} :
    swapsWith (.DictComp kx elt gens scope py) (some (.Name x px)) line X.env = pure true ∧ X.env.scope.names.lookup x = some .local := by
  obtain ⟨h1, h2⟩ := band h
  obtain ⟨h3, h4⟩ := band h1
  have hl : X.env.scope.names.lookup x = some .local := by
    rw [hs]
    cases q : S.sc.names.lookup x with
    | none =>
      rw [q] at h3
      cases h3
    | some z =>
      rw [q] at h3
      cases z <;> first | rfl | cases h3
  refine ⟨?_, hl⟩
  have e : swapsWith (.DictComp kx elt gens scope py) (some (.Name x px)) line X.env = pure (X.env.blockKind == .function && X.env.kindOf x == some .local && px.line == py.line && !(scope.names.any fun p => p.1 == x && (p.2 == .local || p.2 == .cell))) := rfl
  have hb : (X.env.blockKind == .function) = true := by
    unfold PySem.Env.blockKind
    rw [hk]
    rfl
  have hk2 : (X.env.kindOf x == some .local) = true := by
    show (X.env.scope.names.lookup x == some .local) = true
    rw [hl]
    rfl
  rw [e, hb, hk2, h4, h2]
  rfl
theorem swB_fD {scope : Scope} {x : Str} {px py : Pos} (hs : X.env.scope = S.sc) (hk : X.env.scope.kind = .function) (h : swB S scope x px py = false) {kx elt : PySem.Expr} {gens : List Comprehension} {line : Nat} :
    swapsWith (.DictComp kx elt gens scope py) (some (.Name x px)) line X.env = pure false := by
  have e : swapsWith (.DictComp kx elt gens scope py) (some (.Name x px)) line X.env = pure (X.env.blockKind == .function && X.env.kindOf x == some .local && px.line == py.line && !(scope.names.any fun p => p.1 == x && (p.2 == .local || p.2 == .cell))) := rfl
  have hb : (X.env.blockKind == .function) = true := by
    unfold PySem.Env.blockKind
    rw [hk]
    rfl
  have hk2 : (X.env.kindOf x == some .local) = (match S.sc.names.lookup x with
    | some .local => true
    | _ => false) := by
    show (X.env.scope.names.lookup x == some .local) = _
    rw [hs]
    cases S.sc.names.lookup x with
    | none => rfl
    | some z => cases z <;> rfl
  rw [e, hb, hk2, Bool.true_and]
  exact congrArg pure h
mutual
theorem sS : ∀ (p : PSt) {S : Sc} {X : Cx} {W : Cw} {ex : Option Ex} {st : Stmt}, Gs G P k S X W ex → okS S p st = true → PS X st (tS G W (exS (orcX P (callF P k) ex) P.wld p))
  | .hole, S, X, W, ex, st, g, h => PS_never fun D σ H q => by
    obtain ⟨ρ, st, env, r, st', q1, q2, q3, q4⟩ := q
    cases q3
  | .pass, S, X, W, ex, st, g, h => by
    have fin : ∀ D σ H, tS G W (exS (orcX P (callF P k) ex) P.wld .pass) D σ H → tNext D σ H := fun D σ H q => by
      obtain ⟨ρ, st, env, r, st', q1, q2, q3, q4⟩ := q
      obtain ⟨rfl, rfl⟩ := fl_of (show fl (.next env) st = some (r, st') from q3)
      exact q4 ρ H σ Step.refl q1 q2
    cases st with
    | Pass pos => exact PS_imp ps_pass fin
    | Expr e pos => cases e with
      | Constant c j q => cases c with
        | str z => exact PS_imp ps_doc fin
        | _ => cases h
      | _ => cases h
    | _ => cases h
  | .expr e, S, X, W, ex, st, g, h => by
    cases st with
    | Expr x pos =>
      obtain ⟨h1, h2⟩ := band h
      have hc : isComp x = false := by simpa using h2
      refine PS_imp (ps_expr (sE e g.toGd h1).1 (sw_none hc)) fun D σ H q => ?_
      obtain ⟨ρ, st, env, r, st', q1, q2, q3, q4⟩ := q
      refine tS_run q1 q2 (show (evE (orcX P (callF P k) ex) e env).run env (fun _ => fl (.next env)) st = some (r, st') from q3) q4 fun x s1 ρ1 H1 v hm f1 s r1 rp e1 p1 => ?_
      obtain ⟨rfl, rfl⟩ := fl_of f1
      exact p1 ρ1 H1 σ Step.refl r1 e1
    | _ => cases h
  | .asg t e, S, X, W, ex, st, g, h => by
    cases st with
    | Assign ts y pos =>
      cases ts with
      | nil => cases h
      | cons x ts => cases ts with
        | cons _ _ => cases h
        | nil =>
          obtain ⟨h1, hy⟩ := band h
          obtain ⟨h2, htt⟩ := band h1
          obtain ⟨h3, hnh⟩ := band h2
          obtain ⟨htg, hcalm⟩ := band h3
          have hc := g.calm hcalm
          have nh := noHnd_of g hnh (tgSl t)
          have pg := sTg t g.toGood hc nh htg
          have hsw : swappedStores [x] y X.env = pure none := sw_stores htt fun es p e => by
            subst e
            cases t <;> cases htg
          have has : (assignEach [x] X.env).map (·.2) = [assign x X.env] := by
            rw [plain_asg (okTg_plain htg)]
            rfl
          have plain : okE S e y = true → (∀ pos', swapsWith y (some x) pos' X.env = pure false) → PS X (.Assign [x] y pos) (tS G W (exS (orcX P (callF P k) ex) P.wld (.asg t e))) := fun he hs =>
            PS_imp (ps_asg (sE e g.toGd he).1 pg (hs _) hsw has) fun D σ H q => asg_rd q
          by_cases hcomp : isComp y = true
          · cases y with
            | ListComp elt gens scope q =>
              cases x with
              | Name n p =>
                by_cases hb : swB S scope n p q = true
                · refine ⟨fun pins s σ H D I z => ?_⟩
                  have hk := I.ok.kind
                  refine PS.run ?_ pins s σ H D I z
                  have hy : (if swB S scope n p q = true then okAsgF S t e (.ListComp elt gens scope q) else okE S e (.ListComp elt gens scope q)) = true := hy
                  rw [if_pos hb] at hy
                  cases t with
                  | nm i =>
                    have hf : ∃ f, (e = .val f ∨ e = .loc f) ∧ okF S f (.ListComp elt gens scope q) = true := by
                      cases e with
                      | val f => exact ⟨f, .inl rfl, hy⟩
                      | loc f => exact ⟨f, .inr rfl, hy⟩
                      | _ => cases hy
                    obtain ⟨f, hef, hf⟩ := hf
                    cases f with
                    | lc own src tg cs a =>
                      obtain ⟨t0, iter, ifs, rfl, hc, hW, hsl, ok, hown, pi, pgs, pts, pe, hfo⟩ := lc_parts g.toGd hf
                      obtain ⟨sw, hl⟩ := swB_t g.sc hk hb (elt := elt) (gens := [⟨t0, iter, ifs, 0⟩]) (line := pos.line)
                      obtain ⟨s1, s2⟩ := band htg
                      obtain ⟨n1, _, _⟩ := slot_of g.toGood s1
                      refine PS_imp (ps_setLc hc (by rw [g.N]; exact g.nd) n1 hl sw pi ok pgs pts pe hfo) fun D σ H q => ?_
                      have z := lc_rd hW hsl (asg_fresh hef nh q)
                      show tLc _ _ _ _ _ σ H _
                      rw [hown]
                      exact z
                    | _ => cases hf
                  | _ => cases hy
                · have hb2 : swB S scope n p q = false := by simpa using hb
                  have hy : (if swB S scope n p q = true then okAsgF S t e (.ListComp elt gens scope q) else okE S e (.ListComp elt gens scope q)) = true := hy
                  rw [if_neg hb] at hy
                  refine ⟨fun pins s σ H D I z => ?_⟩
                  have hk := I.ok.kind
                  exact (plain hy fun _ => swB_f g.sc hk hb2).run pins s σ H D I z
              | _ => cases hy
            | SetComp _ _ _ _ =>
              have := (band hy).2
              cases this
            | DictComp kx elt gens scope q =>
              cases x with
              | Name n p =>
                by_cases hb : swB S scope n p q = true
                · refine ⟨fun pins s σ H D I z => ?_⟩
                  have hk := I.ok.kind
                  refine PS.run ?_ pins s σ H D I z
                  have hy : (if swB S scope n p q = true then okAsgF S t e (.DictComp kx elt gens scope q) else okE S e (.DictComp kx elt gens scope q)) = true := hy
                  rw [if_pos hb] at hy
                  cases t with
                  | nm i =>
                    have hf : ∃ f, (e = .val f ∨ e = .loc f) ∧ okF S f (.DictComp kx elt gens scope q) = true := by
                      cases e with
                      | val f => exact ⟨f, .inl rfl, hy⟩
                      | loc f => exact ⟨f, .inr rfl, hy⟩
                      | _ => cases hy
                    obtain ⟨f, hef, hf⟩ := hf
                    cases f with
                    | dc own src tg cs ak a =>
                      obtain ⟨t0, iter, ifs, rfl, hc, hW, hsl, ok, hown, pi, pgs, pts, pek, pe, hfo⟩ := dc_parts g.toGd hf
                      obtain ⟨sw, hl⟩ := swB_tD g.sc hk hb (kx := kx) (elt := elt) (gens := [⟨t0, iter, ifs, 0⟩]) (line := pos.line)
                      obtain ⟨s1, s2⟩ := band htg
                      obtain ⟨n1, _, _⟩ := slot_of g.toGood s1
                      refine PS_imp (ps_setDc hc (by rw [g.N]; exact g.nd) n1 hl sw pi ok pgs pts pek pe hfo) fun D σ H q => ?_
                      have z := dc_rd hW hsl (asg_fresh hef nh q)
                      show tDc _ _ _ _ _ _ σ H _
                      rw [hown]
                      exact z
                    | _ => cases hf
                  | _ => cases hy
                · have hb2 : swB S scope n p q = false := by simpa using hb
                  have hy : (if swB S scope n p q = true then okAsgF S t e (.DictComp kx elt gens scope q) else okE S e (.DictComp kx elt gens scope q)) = true := hy
                  rw [if_neg hb] at hy
                  refine ⟨fun pins s σ H D I z => ?_⟩
                  have hk := I.ok.kind
                  exact (plain hy fun _ => swB_fD g.sc hk hb2).run pins s σ H D I z
              | _ => cases hy
            | _ => cases hcomp
          · have hc2 : isComp y = false := by simpa using hcomp
            have hy2 : okE S e y = true := by
              cases y <;> first | exact (band hy).1 | cases hc2
            exact plain hy2 fun _ => sw_none hc2
    | _ => cases h
  | .setf o f e, S, X, W, ex, st, g, h => by
    cases st with
    | Assign ts y pos =>
      cases ts with
      | nil => cases h
      | cons x ts => cases ts with
        | cons _ _ => cases x <;> cases h
        | nil =>
          cases x with
          | Attribute x g' p =>
            obtain ⟨h1, h2⟩ := band h
            obtain ⟨h3, h4⟩ := band h1
            have e0 := of_decide_eq_true h3
            subst e0
            refine PS_imp (ps_fld (sE o g.toGd h4).1 (sE e g.toGd h2).1 sw_attr) fun D σ H q => ?_
            obtain ⟨ρ, st, env, r, st', q1, q2, q3, q4⟩ := q
            refine tS_run q1 q2 (show (evE (orcX P (callF P k) ex) e env).run env (fun v => (evE (orcX P (callF P k) ex) o env).run env fun x => fun st => (setfD P.fld x f v st).map fun s => (Fl.next env, s)) st = some (r, st') from q3) q4 fun y s1 ρ1 H1 v hm f1 s r1 rp e1 p1 => ?_
            refine tS_run r1 e1 f1 p1 fun x s2 ρ2 H2 u hm2 f2 s' r2 rp2 e2 p2 => ?_
            obtain ⟨s3, f3, f4⟩ := Option.map_eq_some_iff.mp (show (setfD P.fld x f y s2).map (fun s => (Fl.next env, s)) = some (r, st') from f2)
            obtain ⟨rfl, rfl⟩ : r = .next env ∧ st' = s3 := by
              cases f4
              exact ⟨rfl, rfl⟩
            clear f4
            cases x with
            | ref l =>
              obtain ⟨a, a1, rfl⟩ := rp2
              have f5 : (match s2[l]? with
                | some (.ins C fs) => if fs.length < 1000 ∧ P.fld C f = true then some (s2.set l (.ins C (setF f y fs))) else none
                | _ => none) = some st' := f3
              cases q : s2[l]? with
              | none =>
                rw [q] at f5
                cases f5
              | some ob =>
                rw [q] at f5
                cases ob with
                | ins C fs =>
                  have f6 : (if fs.length < 1000 ∧ P.fld C f = true then some (s2.set l (.ins C (setF f y fs))) else none) = some st' := f5
                  split at f6
                  · rename_i hz
                    cases f6
                    obtain ⟨dx, fs', h5, h6⟩ := r2.at_ l _ a q a1
                    obtain ⟨c1, c2⟩ := g.fx.fld C f hz.2
                    obtain ⟨s4, r4⟩ := mut_loc (ho := .ins (G.cA C) dx (putF f v fs')) (o' := .ins C (setF f y fs)) r2 (look_lt q) a1 fun s => ⟨dx, _, upd_same, (h6.put (rp.step s')).step s⟩
                    exact ⟨a, G.cA C, dx, fs', rfl, h5, by rw [g.K]; exact c1, by rw [g.K]; exact c2, by rw [← h6.length]; exact hz.1, p2 ρ2 _ σ s4 r4 (e2.step s4)⟩
                  · cases f6
                | _ => cases f5
            | _ => cases f3
          | _ => cases h
    | _ => cases h
  | .seti o i e, S, X, W, ex, st, g, h => by
    cases st with
    | Assign ts y pos =>
      cases ts with
      | nil => cases h
      | cons x ts => cases ts with
        | cons _ _ => cases x <;> cases h
        | nil =>
          cases x with
          | Subscript x z p =>
            obtain ⟨h1, hcalm⟩ := band h
            obtain ⟨h2, hcomp⟩ := band h1
            obtain ⟨h3, he⟩ := band h2
            obtain ⟨ho, hi⟩ := band h3
            have pg := pg_sub (pos := p) (sE o g.toGd ho).1 (sE i g.toGd hi).1 (set_ok (G := G) g.hu1) (fun v => by cases z <;> first | rfl | (have := okE_plain hi; cases this))
            have hs1 : swapsWithSole [.Subscript x z p] y pos.line X.env = pure false := sw_sub (e := y) (o := x) (i := z) (p := p) (l := pos.line) (env := X.env)
            have hs2 : swappedStores [.Subscript x z p] y X.env = pure none := sw_stores (by rfl) fun _ _ q => nomatch q
            refine PS_imp (ps_asg (sE e g.toGd he).1 pg hs1 hs2 rfl) fun D σ H q => ?_
            obtain ⟨ρ, st, env, r, st', q1, q2, q3, q4⟩ := q
            refine tS_run q1 q2 (show (evE (orcX P (callF P k) ex) e env).run env (fun v => (evE (orcX P (callF P k) ex) o env).run env fun x => (evE (orcX P (callF P k) ex) i env).run env fun y => fun st => (setiD x y v st).map fun s => (Fl.next env, s)) st = some (r, st') from q3) q4 fun w s1 ρ1 H1 v hm f1 s r1 rp e1 p1 => ?_
            refine tS_run r1 e1 f1 p1 fun x s2 ρ2 H2 u hm2 f2 s' r2 rp2 e2 p2 => ?_
            refine tS_run r2 e2 f2 p2 fun y s3 ρ3 H3 u3 hm3 f3 s3' r3 rp3 e3 p3 => ?_
            obtain ⟨s4, f4, f5⟩ := Option.map_eq_some_iff.mp f3
            cases f5
            exact ⟨ρ3, _, x, y, w, _, r3, rp2.step s3', rp3, (rp.step s').step s3', f4, fun ρ' H' s5 r5 => p3 ρ' H' σ s5 r5 (e3.step s5)⟩
          | _ => cases h
    | _ => cases h
  | .ifs c a b, S, X, W, ex, st, g, h => by
    cases st with
    | If x xs ys pos =>
      obtain ⟨h1, h2⟩ := band h
      obtain ⟨h3, h4⟩ := band h1
      refine PS_imp (ps_if (sE c g.toGd h3).2 (sSs a g h4) (sSs b g h2)) fun D σ H q => ?_
      obtain ⟨ρ, st, env, r, st', q1, q2, q3, q4⟩ := q
      have q5 : (testM (orcX P (callF P k) ex) c env).run env (fun t => if t = true then exSs (orcX P (callF P k) ex) P.wld a env else exSs (orcX P (callF P k) ex) P.wld b env) st = some (r, st') := by
        rw [← q3]
        exact if_run
      refine tS_run q1 q2 q5 q4 fun t s1 ρ1 H1 v hm f1 s r1 rp e1 p1 => ?_
      have rp : t = v := rp
      subst rp
      cases t with
      | true => exact ⟨ρ1, s1, env, r, st', r1, e1, f1, p1⟩
      | false => exact ⟨ρ1, s1, env, r, st', r1, e1, f1, p1⟩
    | _ => cases h
  | .fors src tg b, S, X, W, ex, st, g, h => by
    cases st with
    | For t iter body orelse pos =>
      cases orelse with
      | cons _ _ => cases h
      | nil =>
        obtain ⟨h1, hpl⟩ := band h
        obtain ⟨h2, hnh⟩ := band h1
        obtain ⟨h3, hcalm⟩ := band h2
        obtain ⟨h4, hb⟩ := band h3
        obtain ⟨hsrc, htg⟩ := band h4
        have hc := g.calm hcalm
        refine PS_imp (ps_for g.po hc (sI src g.toGd hsrc) (sTg tg g.toGood hc (noHnd_of g hnh _) htg) (sSs b g hb) (plain_folded hpl X.env)) fun D σ H q => for_rd q
    | _ => cases h
  | .whl c b, S, X, W, ex, st, g, h => by
    cases st with
    | While x body orelse pos =>
      cases orelse with
      | cons _ _ => cases h
      | nil =>
        obtain ⟨h1, h2⟩ := band h
        exact PS_imp (ps_while g.po (sE c g.toGd h1).2 (sSs b g h2)) fun D σ H q => while_rd q
    | _ => cases h
  | .ret e, S, X, W, ex, st, g, h => by
    cases st with
    | Return v pos => cases v with
      | none => cases h
      | some x =>
        refine PS_imp (ps_ret (sE e g.toGd (show okE S e x = true from h)).1) fun D σ H q => ?_
        obtain ⟨ρ, st, env, r, st', q1, q2, q3, q4⟩ := q
        refine tS_run q1 q2 (show (evE (orcX P (callF P k) ex) e env).run env (fun d => fl (.ret d)) st = some (r, st') from q3) q4 fun x s1 ρ1 H1 v hm f1 s r1 rp e1 p1 => ?_
        obtain ⟨rfl, rfl⟩ := fl_of f1
        exact p1 ρ1 H1 v Step.refl r1 rp
    | _ => cases h
  | .retn, S, X, W, ex, st, g, h => by
    cases st with
    | Return v pos => cases v with
      | some x => cases h
      | none =>
        refine PS_imp ps_retN fun D σ H q => ?_
        obtain ⟨ρ, st, env, r, st', q1, q2, q3, q4⟩ := q
        obtain ⟨rfl, rfl⟩ := fl_of (show fl (.ret .non) st = some (r, st') from q3)
        exact q4 ρ H .non Step.refl q1 rfl
    | _ => cases h
  | .cont, S, X, W, ex, st, g, h => by
    cases st with
    | Continue pos =>
      refine PS_imp ps_continue fun D σ H q => ?_
      obtain ⟨ρ, st, env, r, st', q1, q2, q3, q4⟩ := q
      obtain ⟨rfl, rfl⟩ := fl_of (show fl (.cont env) st = some (r, st') from q3)
      exact q4 ρ H σ Step.refl q1 q2
    | _ => cases h
  | .brk, S, X, W, ex, st, g, h => by
    cases st with
    | Break pos =>
      refine PS_imp ps_break fun D σ H q => ?_
      obtain ⟨ρ, st, env, r, st', q1, q2, q3, q4⟩ := q
      obtain ⟨rfl, rfl⟩ := fl_of (show fl (.brk env) st = some (r, st') from q3)
      exact q4 ρ H σ Step.refl q1 q2
    | _ => cases h
  | .rais C es, S, X, W, ex, st, g, h => by
    cases st with
    | Raise e0 cause pos => cases e0 with
      | none => cases h
      | some e => cases e with
        | Call fn as ks cpos => cases fn with
          | Name x p => cases cause with
            | some _ => cases h
            | none =>
              obtain ⟨h1, hcalm⟩ := band h
              obtain ⟨h2, hk⟩ := band h1
              have hk := noKw_of hk
              subst hk
              obtain ⟨h3, hes⟩ := band h2
              obtain ⟨h4, hex⟩ := band h3
              obtain ⟨h5, hd⟩ := band h4
              obtain ⟨h6, hg⟩ := band h5
              have e := of_decide_eq_true h6
              subst e
              obtain ⟨w, fs, he, rule⟩ := g.fx.exs _ hex
              have pm := rule X rfl rfl rfl rfl rfl ((g.room hcalm).mono (by omega)) (glo_of g.toGood hg) as _ p cpos (sEs es g.toGd hes) (okEs_plain hes) (fun e σ H Q q => tA_nil e hes q)
              refine PS_imp (ps_raise (g.calm hcalm) g.tk pm) fun D σ H q => ?_
              obtain ⟨ρ, st, env, r, st', q1, q2, q3, q4⟩ := q
              refine tS_run q1 q2 (show (evEs (orcX P (callF P k) ex) es env).run env (fun xs => (match P.wld.mkx x xs with
                | some x => fl (.ex x env)
                | none => no)) st = some (r, st') from q3) q4 fun xs s1 ρ1 H1 vs hm f1 s r1 rp e1 p1 => ?_
              have em : P.wld.mkx x xs = if fs.length = xs.length then some ⟨x, mkFs (.str w) fs xs⟩ else none := by
                unfold Wld.mkx
                rw [he]
              rw [em] at f1
              by_cases hl : fs.length = xs.length
              · rw [if_pos hl] at f1
                obtain ⟨rfl, rfl⟩ := fl_of f1
                refine ⟨by rw [← rp.length]; exact hl.symm, fun d hd => ?_⟩
                have s2 := step_new (ρ := ρ1) (o := HO.xd (mkFs (V.str w) fs vs)) hd
                exact p1 ρ1 _ σ d _ s2 (r1.new hd) (e1.step s2) ⟨r1.notin hd, upd_same, (mkFs_ok rp).step s2⟩
              · rw [if_neg hl] at f1
                cases f1
          | _ => cases h
        | _ => cases h
    | _ => cases h
  | .par i j a b, S, X, W, ex, st, g, h => by cases st <;> cases h
  | .aug i o e, S, X, W, ex, st, g, h => by cases st <;> cases h
  | .augf a f o e, S, X, W, ex, st, g, h => by cases st <;> cases h
  | .try_ b hs, S, X, W, ex, st, g, h => by
    cases st with
    | Try body hds orelse fin pos => cases orelse with
      | cons _ _ => cases h
      | nil => cases fin with
        | cons _ _ => cases h
        | nil =>
          obtain ⟨h0, hemp⟩ := band h
          obtain ⟨h1, hnh⟩ := band h0
          obtain ⟨h2, hcalm⟩ := band h1
          obtain ⟨hb, hh⟩ := band h2
          have hnd : S.hnd = none := by
            unfold noHnd at hnh
            cases q : S.hnd with
            | none => rfl
            | some _ =>
              rw [q] at hnh
              cases hnh
          have hW : W.h = none := by
            cases q : W.h with
            | none => rfl
            | some k =>
              have := g.hn k q
              rw [hnd] at this
              cases this
          have hg := sHs hs g hh
          cases hg with
          | nil => cases hemp
          | @cons cs i b' te nm s0 ss pos' hs' hds' ht hsu hn r =>
            refine PS_imp (try_ok (ex := ex) (pb := exSs (orcX P (callF P k) ex) P.wld b) g.stk g.frm (by rw [g.N]; exact g.nd) g.tk hW (fun Wx pn xe tk po => sSs b (W := ⟨Wx, W.h⟩) (X := X.tr pn xe) ?_ hb) (.cons ht hsu hn r)) fun D σ H q => q
            exact { K := g.K, w := g.w, N := g.N, nd := g.nd, calm := g.calm, sc := g.sc, fn := g.fn, room := g.room, un := g.un
                    fx := g.fx.of rfl rfl rfl rfl rfl
                    tk := tk
                    hd := fun j hj => by
                      rw [hnd] at hj
                      cases hj
                    hn := fun k q => g.hn k q
                    po := po, stk := g.stk, frm := g.frm }
    | _ => cases h
theorem sHs : ∀ (hs : List PH) {S : Sc} {X : Cx} {W : Cw} {ex : Option Ex} {hds : List ExceptHandler}, Gs G P k S X W ex → okHs S hs hds = true → HdG X G P (callF P k) hs hds
  | [], S, X, W, ex, hds, g, h => by
    cases hds with
    | nil => exact .nil
    | cons _ _ => cases h
  | .mk cs i b :: hs, S, X, W, ex, hds, g, h => by
    cases hds with
    | nil => cases h
    | cons h0 hds => cases h0 with
      | ExceptHandler t nm suite pos' => cases t with
        | none => cases h
        | some te => cases suite with
          | nil => cases h
          | cons s0 ss =>
            obtain ⟨h1, hr⟩ := band h
            obtain ⟨h2, hb⟩ := band h1
            obtain ⟨ht, hi⟩ := band h2
            refine .cons (test_of g.toGood ht) (fun a oe pn c ec hz hf hs => sSs b (X := X.suite a ((a, oe) :: pn)) ?_ hb) ?_ (sHs hs g hr)
            · exact
                { K := g.K, w := g.w, N := g.N, nd := g.nd
                  calm := fun q => nomatch (show false = true from q)
                  sc := g.sc, fn := g.fn
                  room := fun q => nomatch (show false = true from q)
                  un := g.un
                  fx := g.fx.of rfl rfl rfl rfl rfl
                  tk := takes_none5
                  hd := fun j hj => by
                    have hj : i = some j := hj
                    subst hj
                    refine ⟨c, rfl, hs j rfl, rfl, fun f hx e te pos pe pb => ?_⟩
                    obtain ⟨x1, x2⟩ := g.fx.xf c.cls f hx
                    subst ec
                    exact pe_xf x1 x2 hz hf pe (base_of pb)
                  hn := fun q hq => by
                    cases i with
                    | none => cases hq
                    | some j =>
                      cases hq
                      show some j = some _
                      rw [hs j rfl]
                  po := PassesOwn.never
                  stk := g.stk, frm := g.frm }
            · cases i with
              | none =>
                cases nm with
                | none => rfl
                | some _ => cases hi
              | some j =>
                cases nm with
                | none => cases hi
                | some n =>
                  obtain ⟨i1, i2⟩ := band hi
                  obtain ⟨n1, _, _⟩ := slot_of g.toGood i1
                  refine ⟨n, rfl, n1, ?_⟩
                  show X.env.scope.names.lookup n = some .local
                  rw [g.sc]
                  cases q : S.sc.names.lookup n with
                  | none =>
                    rw [q] at i2
                    cases i2
                  | some z =>
                    rw [q] at i2
                    cases z <;> first | rfl | cases i2
theorem sSs : ∀ (ps : List PSt) {S : Sc} {X : Cx} {W : Cw} {ex : Option Ex} {ss : List Stmt}, Gs G P k S X W ex → okSs S ps ss = true → PSs X ss (tS G W (exSs (orcX P (callF P k) ex) P.wld ps))
  | [], S, X, W, ex, ss, g, h => by
    cases ss with
    | cons _ _ => cases h
    | nil =>
      refine PSs_imp pss_nil fun D σ H q => ?_
      obtain ⟨ρ, st, env, r, st', q1, q2, q3, q4⟩ := q
      obtain ⟨rfl, rfl⟩ := fl_of (show fl (.next env) st = some (r, st') from q3)
      exact q4 ρ H σ Step.refl q1 q2
  | p :: ps, S, X, W, ex, ss, g, h => by
    cases ss with
    | nil => cases h
    | cons s ss =>
      obtain ⟨h1, h2⟩ := band h
      refine PSs_imp (pss_cons (sS p g h1) (sSs ps g h2)) fun D σ H q => ?_
      obtain ⟨ρ, st, env, r, st', q1, q2, q3, q4⟩ := q
      have q5 : (match exS (orcX P (callF P k) ex) P.wld p env st with
        | some (.next env, s) => exSs (orcX P (callF P k) ex) P.wld ps env s
        | r => r) = some (r, st') := q3
      cases e : exS (orcX P (callF P k) ex) P.wld p env st with
      | none =>
        rw [e] at q5
        cases q5
      | some z =>
        obtain ⟨f, s1⟩ := z
        rw [e] at q5
        refine ⟨ρ, st, env, f, s1, q1, q2, e, ?_⟩
        cases f with
        | next env1 => exact fun ρ' H' σ' s r1 e1 => ⟨ρ', s1, env1, r, st', r1, e1, q5, q4.step s⟩
        | ret d =>
          cases q5
          exact q4
        | brk e =>
          cases q5
          exact q4
        | cont e =>
          cases q5
          exact q4
        | ex x e =>
          cases q5
          exact q4
end
end
end Mp
end
section
set_option Elab.async false
set_option linter.all false
set_option maxRecDepth 100000
set_option maxHeartbeats 2000000
/-! Mp: a def keeps what the evaluator says. -/
namespace Mp
open PySem PySem.Spec PyProof.Rows L2
section
variable {G : Cfg} {l m z : List Addr} {H : Hp} {s : Sto}
theorem notin_l {a : Addr} (h : a ∉ (⟨l ++ m, z⟩ : Lo)) : a ∉ (⟨l, z⟩ : Lo) := fun q => h (by
  rcases q with q | q
  · exact .inl (List.mem_append_left _ q)
  · exact .inr q)
theorem at_l {i : Nat} {a : Addr} (h : (⟨l ++ m, z⟩ : Lo).l[i]? = some a) (hi : i < l.length) : (⟨l, z⟩ : Lo).l[i]? = some a := by
  have h : (l ++ m)[i]? = some a := h
  rw [List.getElem?_append_left hi] at h
  exact h
theorem AtL.cut {a : Addr} {vs : List V} (h : AtL G ⟨l ++ m, z⟩ H a vs) : AtL G ⟨l, z⟩ H a vs := by
  rcases h with ⟨n, h⟩ | h
  · exact .inl ⟨notin_l n, h⟩
  · exact .inr h
theorem AtT.cut {a : Addr} {vs : List V} (h : AtT G ⟨l ++ m, z⟩ H a vs) : AtT G ⟨l, z⟩ H a vs := by
  rcases h with ⟨n, h⟩ | h
  · exact .inl ⟨notin_l n, h⟩
  · exact .inr h
/-- what is told of a location when it is handed out by value -/
def FzOk (G : Cfg) (l m z : List Addr) (H : Hp) (g : Nat → Option D) : Prop := ∀ i d v, g i = some d → RelP G ⟨l ++ m, z⟩ H (.ref i) v → RelP G ⟨l, z⟩ H d v
mutual
theorem fz_ok {g : Nat → Option D} (hg : FzOk G l m z H g) : ∀ {d d' : D} {v : V}, D.fz g d = some d' → RelP G ⟨l ++ m, z⟩ H d v → RelP G ⟨l, z⟩ H d' v
  | .non, _, _, e, h => by
    cases e
    exact h
  | .bl _, _, _, e, h => by
    cases e
    exact h
  | .int _, _, _, e, h => by
    cases e
    exact h
  | .str _, _, _, e, h => by
    cases e
    exact h
  | .tup xs, _, _, e, h => by
    obtain ⟨ys, e1, rfl⟩ := Option.map_eq_some_iff.mp (show (D.fzs g xs).map D.tup = some _ from e)
    obtain ⟨a, vs, e2, h1, h2⟩ := h
    exact ⟨a, vs, e2, h1.cut, fzs_ok hg e1 h2⟩
  | .lst xs, _, _, e, h => by
    obtain ⟨ys, e1, rfl⟩ := Option.map_eq_some_iff.mp (show (D.fzs g xs).map D.lst = some _ from e)
    obtain ⟨a, vs, e2, n, h1, h2⟩ := h
    exact ⟨a, vs, e2, notin_l n, h1, fzs_ok hg e1 h2⟩
  | .dct xs, _, _, e, h => by
    obtain ⟨ys, e1, rfl⟩ := Option.map_eq_some_iff.mp (show (D.fzk g xs).map D.dct = some _ from e)
    obtain ⟨a, vs, e2, ⟨n, h1⟩, h2⟩ := h
    exact ⟨a, vs, e2, ⟨notin_l n, h1⟩, fzk_ok hg e1 h2⟩
  | .obj C xs, _, _, e, h => by
    obtain ⟨ys, e1, rfl⟩ := Option.map_eq_some_iff.mp (show (D.fzf g xs).map (D.obj C) = some _ from e)
    obtain ⟨a, dx, vs, e2, n, h1, h2⟩ := h
    exact ⟨a, dx, vs, e2, notin_l n, h1, fzf_ok hg e1 h2⟩
  | .ref i, _, _, e, h => hg i _ _ e h
  | .fn _, _, _, e, h => by
    cases e
    exact h
  | .scr _, _, _, e, h => by
    cases e
    obtain ⟨a, e2, h1⟩ := h
    exact ⟨a, e2, h1.cut⟩
  | .wd fs, d', v, e, h => by cases e
theorem fzs_ok {g : Nat → Option D} (hg : FzOk G l m z H g) : ∀ {d d' : List D} {v : List V}, D.fzs g d = some d' → RelPs G ⟨l ++ m, z⟩ H d v → RelPs G ⟨l, z⟩ H d' v
  | [], _, _, e, h => by
    cases e
    exact h
  | x :: r, _, _, e, h => by
    obtain ⟨v, t, rfl, h1, h2⟩ := h
    have e2 : (match D.fz g x, D.fzs g r with
      | some y, some t => some (y :: t)
      | _, _ => none) = some _ := e
    cases q1 : D.fz g x with
    | none =>
      rw [q1] at e2
      cases e2
    | some y =>
      cases q2 : D.fzs g r with
      | none =>
        rw [q1, q2] at e2
        cases e2
      | some t' =>
        rw [q1, q2] at e2
        cases e2
        exact ⟨v, t, rfl, fz_ok hg q1 h1, fzs_ok hg q2 h2⟩
theorem fzk_ok {g : Nat → Option D} (hg : FzOk G l m z H g) : ∀ {d d' : List (Key × D)} {v : List (Key × V)}, D.fzk g d = some d' → RelPk G ⟨l ++ m, z⟩ H d v → RelPk G ⟨l, z⟩ H d' v
  | [], _, _, e, h => by
    cases e
    exact h
  | (k, x) :: r, _, _, e, h => by
    obtain ⟨v, t, rfl, h1, h2⟩ := h
    have e2 : (match D.fz g x, D.fzk g r with
      | some y, some t => some ((k, y) :: t)
      | _, _ => none) = some _ := e
    cases q1 : D.fz g x with
    | none =>
      rw [q1] at e2
      cases e2
    | some y =>
      cases q2 : D.fzk g r with
      | none =>
        rw [q1, q2] at e2
        cases e2
      | some t' =>
        rw [q1, q2] at e2
        cases e2
        exact ⟨v, t, rfl, fz_ok hg q1 h1, fzk_ok hg q2 h2⟩
theorem fzf_ok {g : Nat → Option D} (hg : FzOk G l m z H g) : ∀ {d d' : List (Str × D)} {v : List (Str × V)}, D.fzf g d = some d' → RelPf G ⟨l ++ m, z⟩ H d v → RelPf G ⟨l, z⟩ H d' v
  | [], _, _, e, h => by
    cases e
    exact h
  | (k, x) :: r, _, _, e, h => by
    obtain ⟨v, t, rfl, h1, h2⟩ := h
    have e2 : (match D.fz g x, D.fzf g r with
      | some y, some t => some ((k, y) :: t)
      | _, _ => none) = some _ := e
    cases q1 : D.fz g x with
    | none =>
      rw [q1] at e2
      cases e2
    | some y =>
      cases q2 : D.fzf g r with
      | none =>
        rw [q1, q2] at e2
        cases e2
      | some t' =>
        rw [q1, q2] at e2
        cases e2
        exact ⟨v, t, rfl, fz_ok hg q1 h1, fzf_ok hg q2 h2⟩
end
mutual
theorem cl_ok : ∀ {d : D} {v : V}, D.cl l.length d = true → RelP G ⟨l ++ m, z⟩ H d v → RelP G ⟨l, z⟩ H d v
  | .non, _, _, h => h
  | .bl _, _, _, h => h
  | .int _, _, _, h => h
  | .str _, _, _, h => h
  | .tup xs, _, c, h => by
    obtain ⟨a, vs, e2, h1, h2⟩ := h
    exact ⟨a, vs, e2, h1.cut, cls_ok c h2⟩
  | .lst xs, _, c, h => by
    obtain ⟨a, vs, e2, n, h1, h2⟩ := h
    exact ⟨a, vs, e2, notin_l n, h1, cls_ok c h2⟩
  | .dct xs, _, c, h => by
    obtain ⟨a, vs, e2, ⟨n, h1⟩, h2⟩ := h
    exact ⟨a, vs, e2, ⟨notin_l n, h1⟩, clk_ok c h2⟩
  | .obj C xs, _, c, h => by
    obtain ⟨a, dx, vs, e2, n, h1, h2⟩ := h
    exact ⟨a, dx, vs, e2, notin_l n, h1, clf_ok c h2⟩
  | .ref i, _, c, h => by
    obtain ⟨a, h1, e⟩ := h
    exact ⟨a, at_l h1 (of_decide_eq_true c), e⟩
  | .fn _, _, _, h => h
  | .scr _, _, _, h => by
    obtain ⟨a, e2, h1⟩ := h
    exact ⟨a, e2, h1.cut⟩
  | .wd fs, _, c, h => by
    obtain ⟨a, fs', e2, h1, h2⟩ := h
    exact ⟨a, fs', e2, h1, clf_ok c h2⟩
theorem cls_ok : ∀ {d : List D} {v : List V}, D.cls l.length d = true → RelPs G ⟨l ++ m, z⟩ H d v → RelPs G ⟨l, z⟩ H d v
  | [], _, _, h => h
  | x :: r, _, c, h => by
    obtain ⟨v, t, e, h1, h2⟩ := h
    obtain ⟨c1, c2⟩ := band c
    exact ⟨v, t, e, cl_ok c1 h1, cls_ok c2 h2⟩
theorem clk_ok : ∀ {d : List (Key × D)} {v : List (Key × V)}, D.clk l.length d = true → RelPk G ⟨l ++ m, z⟩ H d v → RelPk G ⟨l, z⟩ H d v
  | [], _, _, h => h
  | (k, x) :: r, _, c, h => by
    obtain ⟨v, t, e, h1, h2⟩ := h
    obtain ⟨c1, c2⟩ := band c
    exact ⟨v, t, e, cl_ok c1 h1, clk_ok c2 h2⟩
theorem clf_ok : ∀ {d : List (Str × D)} {v : List (Str × V)}, D.clf l.length d = true → RelPf G ⟨l ++ m, z⟩ H d v → RelPf G ⟨l, z⟩ H d v
  | [], _, _, h => h
  | (k, x) :: r, _, c, h => by
    obtain ⟨v, t, e, h1, h2⟩ := h
    obtain ⟨c1, c2⟩ := band c
    exact ⟨v, t, e, cl_ok c1 h1, clf_ok c2 h2⟩
end
theorem clt_ok : ∀ {d : List (List Key × D)} {v : List (List Key × V)}, clt l.length d = true → RelPt G ⟨l ++ m, z⟩ H d v → RelPt G ⟨l, z⟩ H d v
  | [], _, _, h => h
  | (k, x) :: r, _, c, h => by
    obtain ⟨v, t, e, h1, h2⟩ := h
    obtain ⟨c1, c2⟩ := band c
    exact ⟨v, t, e, cl_ok c1 h1, clt_ok c2 h2⟩
theorem ob_ok {a : Addr} {o : Ob} (c : Ob.cl l.length o = true) (h : RelOb G ⟨l ++ m, z⟩ H a o) : RelOb G ⟨l, z⟩ H a o := by
  cases o with
  | lst xs =>
    obtain ⟨vs, h1, h2⟩ := h
    exact ⟨vs, h1, cls_ok c h2⟩
  | dk xs =>
    obtain ⟨vs, h1, h2⟩ := h
    exact ⟨vs, h1, clk_ok c h2⟩
  | dt xs =>
    obtain ⟨vs, h1, h2⟩ := h
    exact ⟨vs, h1, clt_ok c h2⟩
  | ins C xs =>
    obtain ⟨dx, vs, h1, h2⟩ := h
    exact ⟨dx, vs, h1, clf_ok c h2⟩
theorem fzR_ok (r : Rel G ⟨l ++ m, z⟩ H s) : ∀ k, FzOk G l m z H (fzR s l.length k)
  | 0, i, d, v, e, _ => by cases e
  | k + 1, i, d, v, e, h => by
    have e2 : (match decide (i < l.length) with
      | true => some (D.ref i)
      | false => match s[i]? with
        | some (.lst xs) => (D.fzs (fzR s l.length k) xs).map D.lst
        | some (.dk kvs) => (D.fzk (fzR s l.length k) kvs).map D.dct
        | some (.ins C fs) => (D.fzf (fzR s l.length k) fs).map (D.obj C)
        | _ => none) = some d := e
    obtain ⟨a, h1, rfl⟩ := h
    by_cases hi : i < l.length
    · rw [decide_eq_true hi] at e2
      cases e2
      exact ⟨a, at_l h1 hi, rfl⟩
    · rw [decide_eq_false hi] at e2
      have h1' : (l ++ m)[i]? = some a := h1
      have nz : a ∉ z := fun q => (r.zs a q).1 (List.mem_of_getElem? h1')
      have nl : a ∉ l := fun q => by
        obtain ⟨j, hj, ej⟩ := List.mem_iff_getElem.mp q
        have nd : (l ++ m).Nodup := r.nd
        obtain ⟨p1, q1⟩ := List.getElem?_eq_some_iff.mp h1'
        have hj2 : j < (l ++ m).length := by rw [List.length_append]; omega
        have e3 : (l ++ m)[j] = a := by rw [List.getElem_append_left hj]; exact ej
        have := (List.getElem_inj nd).mp (e3.trans q1.symm)
        omega
      have na : a ∉ (⟨l, z⟩ : Lo) := fun q => by
        rcases q with q | q
        · exact nl q
        · exact nz q
      cases q : s[i]? with
      | none =>
        rw [q] at e2
        cases e2
      | some o =>
        rw [q] at e2
        have ro := r.at_ i o a q h1
        cases o with
        | lst xs =>
          obtain ⟨ys, e3, rfl⟩ := Option.map_eq_some_iff.mp (show (D.fzs (fzR s l.length k) xs).map D.lst = some d from e2)
          obtain ⟨vs, h3, h4⟩ := ro
          exact ⟨a, vs, rfl, na, h3, fzs_ok (fzR_ok r k) e3 h4⟩
        | dk xs =>
          obtain ⟨ys, e3, rfl⟩ := Option.map_eq_some_iff.mp (show (D.fzk (fzR s l.length k) xs).map D.dct = some d from e2)
          obtain ⟨vs, h3, h4⟩ := ro
          exact ⟨a, vs, rfl, ⟨na, .inl h3⟩, fzk_ok (fzR_ok r k) e3 h4⟩
        | dt xs => cases e2
        | ins C xs =>
          obtain ⟨ys, e3, rfl⟩ := Option.map_eq_some_iff.mp (show (D.fzf (fzR s l.length k) xs).map (D.obj C) = some d from e2)
          obtain ⟨dx, vs, h3, h4⟩ := ro
          exact ⟨a, dx, vs, rfl, na, h3, fzf_ok (fzR_ok r k) e3 h4⟩
theorem Rel.back (r : Rel G ⟨l ++ m, z⟩ H s) (c : (s.take l.length).all (Ob.cl l.length) = true) : Rel G ⟨l, z⟩ H (s.take l.length) := by
  have hlen : (l ++ m).length = s.length := r.len
  have hle : l.length ≤ s.length := by
    rw [← hlen, List.length_append]
    omega
  refine ⟨?_, ?_, fun a ha => ?_, fun i o a e1 e2 => ?_⟩
  · show l.length = _
    rw [List.length_take]
    omega
  · exact (List.nodup_append.mp r.nd).1
  · obtain ⟨n, o, e⟩ := r.zs a ha
    exact ⟨fun q => n (List.mem_append_left _ q), o, e⟩
  · have hi : i < l.length := (List.getElem?_eq_some_iff.mp (show l[i]? = some a from e2)).1
    rw [List.getElem?_take_of_lt hi] at e1
    have hc : Ob.cl l.length o = true := by
      refine List.all_eq_true.mp c o ?_
      refine List.mem_of_getElem? (i := i) ?_
      rw [List.getElem?_take_of_lt hi]
      exact e1
    refine ob_ok hc (r.at_ i o a e1 ?_)
    show (l ++ m)[i]? = some a
    rw [List.getElem?_append_left hi]
    exact e2
theorem lo_of {ρ ρ' : Lo} {H H' : Hp} (s : Step ρ ρ' H H') : ∃ m, ρ' = ⟨ρ.l ++ m, ρ.z⟩ := by
  obtain ⟨m, e⟩ := s.ext
  obtain ⟨l', z'⟩ := ρ'
  have h1 : l' = ρ.l ++ m := e
  have h2 : z' = ρ.z := s.z
  rw [h1, h2]
  exact ⟨m, rfl⟩
theorem step_back {ρ : Lo} {m : List Addr} {H H' : Hp} (s : Step ρ ⟨ρ.l ++ m, ρ.z⟩ H H') : Step ρ ρ H H' := ⟨⟨[], by simp⟩, rfl, fun a h n => absurd h n, s.keep⟩
theorem step_fore {ρ ρ' : Lo} {H H' : Hp} (s : Step ρ ρ' H H') : Step ρ ρ H H' := ⟨⟨[], by simp⟩, rfl, fun a h n => absurd h n, s.keep⟩
/-- what is handed out of a def that gives by value -/
theorem finish_ok {fz : Bool} {ρ ρ' : Lo} {H H' : Hp} {st s st' : Sto} {d : D} {r : R D} {v : V} {Q : VK} {E : XK} (r0 : Rel G ρ H st) (e : finish fz st.length d s = some (r, st')) (p : PostC G ρ H Q E r st') (sp : Step ρ ρ' H H') (r1 : Rel G ρ' H' s) (rp : RelP G ρ' H' d v) : Q v H' := by
  cases fz with
  | false =>
    have e2 : some (R.ok d, s) = some (r, st') := e
    cases e2
    exact p ρ' H' v sp r1 rp
  | true =>
    have e2 : (match (s.take st.length).all (Ob.cl st.length) with
      | true => match D.fz (fzR s st.length 12) d with
        | some d' => some (R.ok d', s.take st.length)
        | none => none
      | false => none) = some (r, st') := e
    cases hc : (s.take st.length).all (Ob.cl st.length) with
    | false =>
      rw [hc] at e2
      cases e2
    | true =>
      rw [hc] at e2
      have e3 : (match D.fz (fzR s st.length 12) d with
        | some d' => some (R.ok d', s.take st.length)
        | none => none) = some (r, st') := e2
      cases hd : D.fz (fzR s st.length 12) d with
      | none =>
        rw [hd] at e3
        cases e3
      | some d' =>
        rw [hd] at e3
        cases e3
        obtain ⟨m, rfl⟩ := lo_of sp
        have hn : st.length = ρ.l.length := r0.len.symm
        rw [hn] at hc hd p
        exact p ρ H' v (step_back sp) (r1.back hc) (fz_ok (fzR_ok r1 12) hd rp)
theorem finX_ok {fz : Bool} {ρ ρ' : Lo} {H H' : Hp} {st s st' : Sto} {x : Ex} {r : R D} {dd : Addr} {fs' : List (Str × V)} {Q : VK} {E : XK} (r0 : Rel G ρ H st) (e : finX fz st.length x s = some (r, st')) (p : PostC G ρ H Q E r st') (sp : Step ρ ρ' H H') (r1 : Rel G ρ' H' s) (xr : ExR G ρ' H' x dd fs') : E (.ref (G.cA x.cls)) (some dd) H' := by
  cases fz with
  | false =>
    have e2 : some (R.ex x, s) = some (r, st') := e
    cases e2
    exact p ρ' H' dd fs' sp r1 xr
  | true =>
    have e2 : (if (s.take st.length).all (Ob.cl st.length) = true ∧ D.clf st.length x.fs = true then some (R.ex x, s.take st.length) else none) = some (r, st') := e
    split at e2
    · rename_i hc
      cases e2
      obtain ⟨m, rfl⟩ := lo_of sp
      have hn : st.length = ρ.l.length := r0.len.symm
      rw [hn] at hc p
      exact p ρ H' dd fs' (step_back sp) (r1.back hc.1) ⟨notin_l xr.1, xr.2.1, clf_ok hc.2 xr.2.2⟩
    · cases e2
end
/-- the environment at a def's entry -/
theorem env_start {G : Cfg} {ρ : Lo} {H : Hp} {W : Cw} {N : List Str} {n np : Nat} {xs : List D} {vs : List V} (hW : W.h = none) (h : RelPs G ρ H xs vs) (hn : n = N.length) (hl : xs.length = np) (hle : np ≤ n) : EnvR G ρ H W (xs.map some ++ List.replicate (n - np) none) (L2.start N vs) := by
  have hv := h.length
  refine ⟨?_, fun i d e => ?_, fun k q => by rw [hW] at q; cases q⟩
  · unfold L2.start
    simp only [List.length_append, List.length_map, List.length_replicate]
    omega
  · by_cases hi : i < xs.length
    · rw [List.getElem?_append_left (by simpa using hi), List.getElem?_map, List.getElem?_eq_getElem hi] at e
      cases e
      obtain ⟨v, h1, h2⟩ := h.get (List.getElem?_eq_getElem hi)
      refine ⟨v, ?_, h2⟩
      unfold L2.start
      rw [List.getElem?_append_left (by rw [List.length_map]; omega), List.getElem?_map, h1]
      rfl
    · rw [List.getElem?_append_right (by simpa using hi), List.getElem?_replicate] at e
      split at e
      · cases e
      · cases e
/-- what is told of a def of the text -/
structure DefF (pr : Program) (w : World) (K : PySem.W.Frag) (G : Cfg) (P : Prg) (T : Tab) (f : Str) (F : Fn) : Prop where
  it : ∃ (x qual : Str) (st : Stmt) (N ps : List Str) (oc dV kV doc pm cdv ct : Value) (od an : Option Addr) (osl : Array (Option Value)),
    K.lookup (G.fA f) = some ⟨oc, od, .func (PySem.W.fnOf x qual (defArgs st) (defBody st) (defScope st) dV kV doc pm an cdv ct), osl⟩ ∧ PySem.W.codeIn K cdv qual = true ∧ FnScope N ps (defScope st) ∧ F.np = ps.length ∧ F.n = N.length ∧
    okSs ⟨N, defScope st, fun _ => true, T, true, none⟩ F.body (defBody st) = true ∧
    ∀ ds, T.miss f ds = true → ∃ us dvs, Binds K (PySem.W.fnOf x qual (defArgs st) (defBody st) (defScope st) dV kV doc pm an cdv ct) ps us ∧ Vals dvs us ∧ ∀ ρ H, RelPs G ρ H ds dvs
  kp : PySem.W.keepIn K (.ref (G.fA f)) = true
section
variable {pr : Program} {w : World} {K : PySem.W.Frag} {mg : Str → Option Value} {base : Heap} {G : Cfg} {P : Prg} {T : Tab} {k : Nat}
theorem fnScope_le {N ps : List Str} {sc : Scope} (S : FnScope N ps sc) : ps.length ≤ N.length := by
  have := congrArg List.length S.pre
  rw [List.length_take] at this
  omega
/-- THE STEP: a def, its callees one level below -/
theorem fn_one {f x qual : Str} {F : Fn} {st : Stmt} {N ps : List Str} {oc dV kV doc pm cdv ct : Value} {od an : Option Addr} {osl : Array (Option Value)} (hK : K = G.K) (hw : w = G.w) (hF : P.fn f = some F)
    (lk : K.lookup (G.fA f) = some ⟨oc, od, .func (PySem.W.fnOf x qual (defArgs st) (defBody st) (defScope st) dV kV doc pm an cdv ct), osl⟩) (hcd : PySem.W.codeIn K cdv qual = true) (S : FnScope N ps (defScope st)) (hnp : F.np = ps.length) (hn : F.n = N.length)
    (ok : okSs ⟨N, defScope st, fun _ => true, T, true, none⟩ F.body (defBody st) = true) (fx : ∀ X : Cx, X.prog = pr → X.w = w → X.K = K → X.mg = mg → X.base = base → Fx G P k T X) :
    FnOk pr w K mg base (L2.CX pr w) (2 * (k + 1) + 2) (G.fA f) (PySem.W.fnOf x qual (defArgs st) (defBody st) (defScope st) dV kV doc pm an cdv ct) ps (spI G P (k + 1) f) := by
  refine fn_of (k := 2 * k + 3) lk hcd S (fun vs H Q E h => ?_) (fun A outer s H vs Q E hr h => ?_)
  · obtain ⟨ρ, st, xs, r, st', q1, q2, q3, q4⟩ := h
    have e : (match P.fn f with
      | none => none
      | some F => if xs.length = F.np then (match exSs (orc P (callF P k)) P.wld F.body (xs.map some ++ List.replicate (F.n - F.np) none) st with
        | some (.next _, s) => finish F.frz st.length .non s
        | some (.ret d, s) => finish F.frz st.length d s
        | some (.ex x _, s) => finX F.frz st.length x s
        | _ => none) else none) = some (r, st') := q3
    rw [hF] at e
    have e2 : (if xs.length = F.np then (match exSs (orc P (callF P k)) P.wld F.body (xs.map some ++ List.replicate (F.n - F.np) none) st with
        | some (.next _, s) => finish F.frz st.length .non s
        | some (.ret d, s) => finish F.frz st.length d s
        | some (.ex x _, s) => finX F.frz st.length x s
        | _ => none) else none) = some (r, st') := e
    by_cases hl : xs.length = F.np
    · rw [← q2.length, hl, hnp]
    · rw [if_neg hl] at e2
      cases e2
  · obtain ⟨ρ, s0, xs, r, st', q1, q2, q3, q4⟩ := h
    have e : (match P.fn f with
      | none => none
      | some F => if xs.length = F.np then (match exSs (orc P (callF P k)) P.wld F.body (xs.map some ++ List.replicate (F.n - F.np) none) s0 with
        | some (.next _, s) => finish F.frz s0.length .non s
        | some (.ret d, s) => finish F.frz s0.length d s
        | some (.ex x _, s) => finX F.frz s0.length x s
        | _ => none) else none) = some (r, st') := q3
    rw [hF] at e
    have e2 : (if xs.length = F.np then (match exSs (orc P (callF P k)) P.wld F.body (xs.map some ++ List.replicate (F.n - F.np) none) s0 with
        | some (.next _, s) => finish F.frz s0.length .non s
        | some (.ret d, s) => finish F.frz s0.length d s
        | some (.ex x _, s) => finX F.frz s0.length x s
        | _ => none) else none) = some (r, st') := e
    by_cases hl : xs.length = F.np
    · rw [if_pos hl] at e2
      let W : Cw := ⟨fun cls d _ H => E cls d H, none⟩
      have tk : Takes (cxOf (L2.CX pr w) pr w K mg base N qual (defScope st) (G.fA f) cdv A outer s H E) W.x := takes_of rfl rfl rfl rfl
      have po : PassesOwn (model pr w) (A.deeper (envOfC qual (defScope st) s.heap.objs.size (G.fA f) cdv)) (envOfC qual (defScope st) s.heap.objs.size (G.fA f) cdv) (cxOf (L2.CX pr w) pr w K mg base N qual (defScope st) (G.fA f) cdv A outer s H E).xe := passes_of (X := cxOf (L2.CX pr w) pr w K mg base N qual (defScope st) (G.fA f) cdv A outer s H E) (K := CX pr w outer H s E) (E₁ := CX pr w outer H s E) rfl
      have g : Gs G P k ⟨N, defScope st, fun _ => true, T, true, none⟩ (cxOf (L2.CX pr w) pr w K mg base N qual (defScope st) (G.fA f) cdv A outer s H E) W none :=
        { K := hK, w := hw, N := rfl, nd := S.nd, calm := fun _ => rfl, sc := rfl, fn := fun _ _ => rfl, room := fun _ => hr, un := hr.units
          fx := fx _ rfl rfl rfl rfl rfl
          tk := tk
          hd := fun i hi => nomatch hi
          hn := fun _ q => nomatch q
          po := po, stk := rfl, frm := rfl }
      refine ⟨_, sSs F.body g ok, ?_⟩
      have hle : F.np ≤ F.n := by
        rw [hnp, hn]
        exact fnScope_le S
      cases eb : exSs (orc P (callF P k)) P.wld F.body (xs.map some ++ List.replicate (F.n - F.np) none) s0 with
      | none =>
        rw [eb] at e2
        cases e2
      | some z =>
        obtain ⟨fl, s1⟩ := z
        rw [eb] at e2
        refine ⟨ρ, s0, _, fl, s1, q1, env_start rfl q2 hn hl hle, eb, ?_⟩
        cases fl with
        | next e => exact fun ρ' H' σ' sp r1 en => finish_ok (v := .non) q1 e2 q4 sp r1 rfl
        | ret d => exact fun ρ' H' v sp r1 rp => finish_ok q1 e2 q4 sp r1 rp
        | ex x e => exact fun ρ' H' σ' dd fs' sp r1 en xr => finX_ok q1 e2 q4 sp r1 xr
        | brk e => cases e2
        | cont e => cases e2
    · rw [if_neg hl] at e2
      cases e2
theorem fn_step {f : Str} {F : Fn} (hK : K = G.K) (hw : w = G.w) (hF : P.fn f = some F) (df : DefF pr w K G P T f F) (fx : ∀ X : Cx, X.prog = pr → X.w = w → X.K = K → X.mg = mg → X.base = base → Fx G P k T X) :
    ∃ fd ps, FnOk pr w K mg base (L2.CX pr w) (2 * (k + 1) + 2) (G.fA f) fd ps (spI G P (k + 1) f) ∧ ∀ ds, T.miss f ds = true → ∃ us dvs, Binds K fd ps us ∧ Vals dvs us ∧ ∀ ρ H, RelPs G ρ H ds dvs := by
  obtain ⟨x, qual, st, N, ps, oc, dV, kV, doc, pm, cdv, ct, od, an, osl, lk, hcd, S, hnp, hn, ok, hb⟩ := df.it
  exact ⟨_, ps, fn_one hK hw hF lk hcd S hnp hn ok fx, hb⟩
/-- the first level: nothing is called -/
theorem fn_zero {f : Str} {F : Fn} (df : DefF pr w K G P T f F) : ∃ fd ps, FnOk pr w K mg base (L2.CX pr w) (2 * 0 + 2) (G.fA f) fd ps (spI G P 0 f) ∧ ∀ ds, T.miss f ds = true → ∃ us dvs, Binds K fd ps us ∧ Vals dvs us ∧ ∀ ρ H, RelPs G ρ H ds dvs := by
  obtain ⟨x, qual, st, N, ps, oc, dV, kV, doc, pm, cdv, ct, od, an, osl, lk, hcd, S, hnp, hn, ok, hb⟩ := df.it
  have no : ∀ {vs H Q E}, ¬ spI G P 0 f vs H Q E := fun h => by
    obtain ⟨ρ, st, xs, r, st', q1, q2, q3, q4⟩ := h
    cases q3
  exact ⟨_, ps, ⟨fun vs H Q E h => (no h).elim, fun A outer s H args us vs Q E _ _ _ _ h => (no h).elim⟩, hb⟩
/-- what the text's names and classes are, all levels -/
structure Facts (pr : Program) (w : World) (K : PySem.W.Frag) (mg : Str → Option Value) (base : Heap) (G : Cfg) (P : Prg) (T : Tab) : Prop where
  hK : K = G.K
  hw : w = G.w
  defs : ∀ f F, P.fn f = some F → DefF pr w K G P T f F
  glob : ∀ x d, P.glob x = some d → ∃ u v, mg x = some u ∧ RelV v u ∧ ∀ ρ H, RelP G ρ H d v
  blt : ∀ x, T.blts.contains x = true → mg x = none
  fld : ∀ C f, P.fld C f = true → Cls G.K (G.cA C) ∧ NoAttr G.K (G.cA C) f
  fns : ∀ f, T.fns.contains f = true → (P.fn f).isSome = true ∧ mg f = some (.ref (G.fA f))
  vals : ∀ f, P.vals.contains f = true → (P.fn f).isSome = true ∧ T.miss f [] = true
  meths : ∀ C m, T.meths.contains (C, m) = true → (P.fn (C ++ "." ++ m)).isSome = true ∧ Cls K (G.cA C) ∧ Meth K (G.cA C) m (G.fA (C ++ "." ++ m))
  mks : ∀ C, T.mks.contains C = true → (P.fn (C ++ ".__init__")).isSome = true ∧ Mk K (G.cA C) (G.fA (C ++ ".__init__")) ∧ mg C = some (.ref (G.cA C))
  hs : ∀ d, T.hcls.contains d = true → mg d = some (.ref (G.cA d))
  exm : ∀ c d b, P.wld.sub c d = some b → T.hcls.contains d = true → PySem.W.exmOne K (.ref (G.cA c)) (.ref (G.cA d)) = some b
  xf : ∀ C f, P.xfld C f = true → XfC K (G.cA C) ∧ PySem.W.findIn K (.ref (G.cA C)) f = some none
  exs : ∀ C, T.exs.contains C = true → ∃ w' fs, P.wld.exw C = some (w', fs) ∧ ∀ (Y : Cx), Y.prog = pr → Y.w = w → Y.K = K → Y.mg = mg → Y.base = base → Room 3 Y.A → Gl Y C → ∀ (es : List PySem.Expr) (ta : TA) (p pos : Pos), PA Y es ta → plainAllB es = true → (es = [] → ∀ σ H Q, ta σ H Q → Q [] H) →
    PMk Y (.Call (.Name C p) es [] pos) (fun σ H Q => ta σ H fun vs H1 => vs.length = fs.length ∧ ∀ d, H1 d = none → Q (.ref (G.cA C)) (some d) (upd H1 d (.xd (mkFs (V.str w') fs vs))))
theorem Facts.fx (h : Facts pr w K mg base G P T) (k : Nat) (H : ∀ f F, P.fn f = some F → ∃ fd ps, FnOk pr w K mg base (L2.CX pr w) (2 * k + 2) (G.fA f) fd ps (spI G P k f) ∧ ∀ ds, T.miss f ds = true → ∃ us dvs, Binds K fd ps us ∧ Vals dvs us ∧ ∀ ρ H, RelPs G ρ H ds dvs)
    (X : Cx) (h1 : X.prog = pr) (h2 : X.w = w) (h3 : X.K = K) (h4 : X.mg = mg) (h5 : X.base = base) : Fx G P k T X := by
  subst h1
  subst h2
  subst h3
  subst h4
  subst h5
  have ff : ∀ {f : Str}, (P.fn f).isSome = true → FnFact G P k T X f := fun {f} q => by
    obtain ⟨F, e⟩ := Option.isSome_iff_exists.mp q
    exact ⟨H f F e, (h.defs f F e).kp⟩
  exact ⟨h.glob, h.blt, h.fld, fun f q => ⟨ff (h.fns f q).1, (h.fns f q).2⟩, fun f q => ⟨ff (h.vals f q).1, (h.vals f q).2⟩, fun C m q => ⟨ff (h.meths C m q).1, (h.meths C m q).2⟩, h.hs, h.exm, h.xf, h.exs, fun C q => ⟨ff (h.mks C q).1, (h.mks C q).2⟩⟩
/-- every def keeps what the evaluator says, at each level -/
theorem Facts.all (h : Facts pr w K mg base G P T) : ∀ k f F, P.fn f = some F → ∃ fd ps, FnOk pr w K mg base (L2.CX pr w) (2 * k + 2) (G.fA f) fd ps (spI G P k f) ∧ ∀ ds, T.miss f ds = true → ∃ us dvs, Binds K fd ps us ∧ Vals dvs us ∧ ∀ ρ H, RelPs G ρ H ds dvs
  | 0, f, F, e => fn_zero (h.defs f F e)
  | k + 1, f, F, e => fn_step h.hK h.hw e (h.defs f F e) fun X h1 h2 h3 h4 h5 => h.fx k (h.all k) X h1 h2 h3 h4 h5
end
end Mp
end
section
set_option Elab.async false
set_option linter.all false
set_option maxRecDepth 100000
set_option maxHeartbeats 4000000
/-! Mp: exceptions of own classes over a built-in one, their __init__ walked. -/
namespace PySem
open Mp (refsT)
namespace MpX
open PySem.W PySem.Calls PyProof.Rows PySem.HandSPX
theorem refsT_cases {tail : List Value} : ∀ l : List Value, refsT tail l = true → (∃ c r, l = .ref c :: r ∧ refsT tail r = true) ∨ l = tail
  | [], e => .inr (beq_iff_eq.mp e)
  | .ref c :: r, e => .inl ⟨c, r, rfl, e⟩
  | .none :: _, e => .inr (beq_iff_eq.mp e)
  | .ellipsis :: _, e => .inr (beq_iff_eq.mp e)
  | .notImplemented :: _, e => .inr (beq_iff_eq.mp e)
  | .bool _ :: _, e => .inr (beq_iff_eq.mp e)
  | .int _ _ :: _, e => .inr (beq_iff_eq.mp e)
  | .float _ _ :: _, e => .inr (beq_iff_eq.mp e)
  | .str _ _ :: _, e => .inr (beq_iff_eq.mp e)
  | .bytes _ _ :: _, e => .inr (beq_iff_eq.mp e)
  | .type _ :: _, e => .inr (beq_iff_eq.mp e)
  | .builtin _ :: _, e => .inr (beq_iff_eq.mp e)
theorem refsT_pass {tail : List Value} (self : Value) (ht : refuseLoop self "__setattr__" tail = pure ()) : ∀ l : List Value, refsT tail l = true → refuseLoop self "__setattr__" l = pure ()
  | [], e => by
    rcases refsT_cases [] e with ⟨c, r, q, _⟩ | q
    · cases q
    · rw [q]
      exact ht
  | a :: r, e => by
    rcases refsT_cases (a :: r) e with ⟨c, r2, q, h⟩ | q
    · cases q
      rw [refuseLoop_ref]
      exact refsT_pass self ht r h
    · rw [q]
      exact ht
theorem refsT_contains {tail : List Value} (Y : String) : ∀ l : List Value, refsT tail l = true → l.contains (.type Y) = tail.contains (.type Y)
  | [], e => by
    rcases refsT_cases [] e with ⟨c, r, q, _⟩ | q
    · cases q
    · rw [q]
  | a :: r, e => by
    rcases refsT_cases (a :: r) e with ⟨c, r2, q, h⟩ | q
    · cases q
      rw [List.contains_cons, refsT_contains Y r h]
      rfl
    · rw [q]
theorem refsT_ne {tail l : List Value} (ht : tail.isEmpty = false) (e : refsT tail l = true) : l.isEmpty = false := by
  cases l with
  | nil =>
    rcases refsT_cases [] e with ⟨c, r, q, _⟩ | q
    · cases q
    · rw [q]
      exact ht
  | cons _ _ => rfl
/-- what is asked of the built-in class -/
structure BaseX (tail : List Value) : Prop where
  ne : tail.isEmpty = false
  ob : tail.contains (.type "object") = true
  pass : ∀ self : Value, refuseLoop self "__setattr__" tail = pure ()
section
open Builtin Builtin.ObjectAttr
variable {pr : Program} {wl : World} {B : Around} {Er : Value → Shared → Prop} {P : Result → Shared → Prop} {hp : Heap} {gs : Array GenState} {dr : Drawn} {tk0 : Nat} {os : OsState}
/-- the ways into object.__setattr__ on such an instance -/
theorem osa_in {tail : List Value} {K : W.Frag} {f : Str} {tk : Tok} {y : Value} {e C : Addr} {oe : Obj} {od : Option Obj} {cd : ClassData} (T : BaseX tail) (KX : K.In hp) (at_ : W.InstAt hp e oe C od) (hcd : W.clsIn K C = some cd) (hm : refsT tail cd.mro = true) (no : W.findIn K (.ref C) f = some none)
    (h : ∀ (A : Around) (E : Value → Shared → Prop) (Q : Fin → Shared → Prop), (∀ s, P (.ok (.ret .none)) s → Q (.done (.ret .none)) s) → wpAny (model pr wl) A (storeInOwnDict (.ref e) (.ref C) (.str f tk) f y false) Q E ⟨hp, gs, dr, tk0, os⟩) :
    codeAny (model pr wl) B (.call (.builtin "object.__setattr__") ⟨[.ref e, .str f tk, y], []⟩) P ⟨hp, gs, dr, tk0, os⟩ := by
  have so := PySem.F.store_object
  have hasOb : cd.mro.contains (.type "object") = true := by
    rw [refsT_contains "object" _ hm]
    exact T.ob
  have isOb : W.Looks (model pr wl) hp (isInstance (.ref e) (.type "object")) true := by
    refine at_.type.andThen (W.looks_mroIn KX ?_)
    unfold W.mroIn
    rw [hcd, Option.bind_some, if_neg (by rw [refsT_ne T.ne hm]; decide), hasOb]
  refine codeAny_call_builtin so.slot.plain so.entry ?_
  refine @W.check_slot (model pr wl) _ _ ⟨hp, gs, dr, tk0, os⟩ "object.__setattr__" "object" "__setattr__" (.ref e) [.str f tk, y] [] _ so.kind so.split isOb (so.args (.ref e) (.str f tk) y) ?_
  have mroC : W.Looks (model pr wl) hp (mroOf (.ref C)) cd.mro := (W.looks_clsIn KX hcd).andThen .now
  have taker : W.Looks (model pr wl) hp (storeTaker? none) none := .now
  rw [W.osa_eq, refuse_eq]
  refine wpAny_bind (wpAny_bind (at_.type.at (wpAny_bind (mroC.at ?_))))
  rw [refsT_pass _ (T.pass _) _ hm]
  refine wpAny_pure (wpAny_bind (at_.type.at (wpAny_bind ((W.looks_findIn KX no).at (wpAny_bind (taker.at ?_))))))
  show wpAny _ _ (storeInOwnDict (.ref e) (.ref C) (.str f tk) f y false) _ _ _
  exact h _ _ _ fun s z => z
/-- e.f = y, e without a dict as yet -/
theorem osa_first {tail : List Value} {K : W.Frag} {f : Str} {tk : Tok} {y : Value} {e C : Addr} {fv : Array Value} {cd : ClassData} (T : BaseX tail) (KX : K.In hp) (he : hp.get? e = some { cls := .ref C, data := .fields fv }) (hcd : W.clsIn K C = some cd) (hm : refsT tail cd.mro = true)
    (hh : cd.hasDict = true) (no : W.findIn K (.ref C) f = some none)
    (hq : ∀ h2 t2 dx, (∀ b o, b ≠ e → hp.get? b = some o → h2.get? b = some o) → hp.objs.size ≤ dx → dx ≠ e → h2.get? e = some { cls := .ref C, dict := some dx, data := .fields fv } → h2.Ns1 dx (fun z => if z = f then some y else none) → P (.ok (.ret .none)) ⟨h2, gs, dr, t2, os⟩) :
    codeAny (model pr wl) B (.call (.builtin "object.__setattr__") ⟨[.ref e, .str f tk, y], []⟩) P ⟨hp, gs, dr, tk0, os⟩ := by
  have apart : e ≠ hp.objs.size := Nat.ne_of_lt (Heap.lt_size he)
  have clsC : W.Looks (model pr wl) hp (classData C) cd := W.looks_clsIn KX hcd
  refine osa_in T KX (oe := { cls := .ref C, data := .fields fv }) (od := none) ⟨he, rfl, rfl, trivial⟩ hcd hm no fun A E Q hQ => ?_
  obtain ⟨n1, n2, n3, n4, n5, n6, n7, n8, n9, n10, n11⟩ := cd
  dsimp only at hh
  subst hh
  unfold storeInOwnDict ownDictForStores
  repeat (first | with_reducible refine store_in_new ?_ ?_ | with_reducible refine wpAny_loadPart_at he ?_ | with_reducible refine clsC.at ?_ | wp_step)
  · exact ⟨_, #[], _, (Heap.get?_update_ne _ _ _ _ apart.symm).trans (Heap.get?_push_at rfl rfl), rfl, fun z hz => absurd hz (by simp), fun _ => rfl⟩
  · intro h2 t2 hn2 sb
    have e1 : (hp.push { cls := .type "dict", data := .dict #[] }).get? e = some { cls := .ref C, data := .fields fv } := Heap.get?_push_of_some _ he
    refine hQ _ (hq h2 t2 hp.objs.size (fun b o hb ho => ?_) (Nat.le_refl _) apart.symm ?_ hn2)
    · have nb : b ≠ hp.objs.size := Nat.ne_of_lt (Heap.lt_size ho)
      rw [sb.2 b nb, Heap.get?_update_ne _ _ _ _ hb]
      exact Heap.get?_push_of_some _ ho
    · rw [sb.2 e apart]
      exact Heap.get?_update_self _ e1 rfl
/-- e.f = y, e with its dict -/
theorem osa_again {tail : List Value} {K : W.Frag} {f : Str} {tk : Tok} {y : Value} {e C dx : Addr} {fv : Array Value} {cd : ClassData} {m0 : Str → Option Value} {nl : List Str} (T : BaseX tail) (KX : K.In hp) (he : hp.get? e = some { cls := .ref C, dict := some dx, data := .fields fv }) (hns : hp.Ns1 dx m0)
    (hw : Within m0 nl) (hz : nl.length ≤ 1000) (hcd : W.clsIn K C = some cd) (hm : refsT tail cd.mro = true) (hh : cd.hasDict = true) (no : W.findIn K (.ref C) f = some none)
    (hq : ∀ h2 t2, (∀ b o, b ≠ dx → hp.get? b = some o → h2.get? b = some o) → h2.Ns1 dx (fun z => if z = f then some y else m0 z) → P (.ok (.ret .none)) ⟨h2, gs, dr, t2, os⟩) :
    codeAny (model pr wl) B (.call (.builtin "object.__setattr__") ⟨[.ref e, .str f tk, y], []⟩) P ⟨hp, gs, dr, tk0, os⟩ := by
  obtain ⟨oD, _, _, hoD, _, _⟩ := hns.count hw
  have clsC : W.Looks (model pr wl) hp (classData C) cd := W.looks_clsIn KX hcd
  refine osa_in T KX (oe := { cls := .ref C, dict := some dx, data := .fields fv }) (od := some oD) ⟨he, rfl, rfl, hoD⟩ hcd hm no fun A E Q hQ => ?_
  obtain ⟨n1, n2, n3, n4, n5, n6, n7, n8, n9, n10, n11⟩ := cd
  dsimp only at hh
  subst hh
  unfold storeInOwnDict ownDictForStores
  repeat (first | with_reducible refine PySem.OEX.store_in_old hns hw hz ?_ | with_reducible refine wpAny_loadPart_at he ?_ | with_reducible refine clsC.at ?_ | wp_step)
  intro h2 t2 hn2 sb
  exact hQ _ (hq h2 t2 (fun b o hb ho => (sb.2 b hb).trans ho) hn2)
end
end MpX
end PySem

namespace Mp
open PySem PySem.Spec PyProof.Rows L2 PySem.MpX
/-- what the written part says of such a class -/
structure OexG (K : PySem.W.Frag) (C : Addr) (tail : List Value) (newId : String) : Prop where
  cls : ∃ nm q N bs bm sn sub ab col dd k0 k1 k2 k3 k5, K.lookup C = some (excClassObj nm q C N bs bm true sn sub ab col dd k0 k1 k2 k3 k5 newId) ∧ refsT tail bm = true
  sa : PySem.W.findIn K (.ref C) "__setattr__" = some (some (.builtin "object.__setattr__"))
  exC : PySem.W.subIn K (.ref C) (.type "BaseException") = some true
  tyC : PySem.W.typeIn K (.ref C) = some (.type "type")
  kC : PySem.W.keepIn K (.ref C) = true
section
variable {X : Cx} {pins : List (Addr × Obj)} {σ : L2.St} {H : Hp} {s : Shared} {a C dx : Addr} {f : Str} {y : V} {u : Value} {fs : List (Str × V)} {Q : Unit → Shared → Prop} {E : Value → Shared → Prop} {A : Around} {tail : List Value} {newId : String}
theorem OexG.data (T : OexG X.K C tail newId) : ∃ cd, PySem.W.clsIn X.K C = some cd ∧ refsT tail cd.mro = true ∧ cd.hasDict = true := by
  obtain ⟨nm, q, N, bs, bm, sn, sub, ab, col, dd, k0, k1, k2, k3, k5, hC, hbm⟩ := T.cls
  refine ⟨{ name := nm, bases := bs, mro := .ref C :: bm, ns := N, qualname := q, hasDict := true, slotNames := sn, subclasses := sub, abstract := ab, collection := col, hasDel := false }, ?_, hbm, rfl⟩
  unfold PySem.W.clsIn
  rw [hC] <;> rfl
/-- self.f = y, the first one -/
theorem ost_first (bx : BaseX tail) (T : OexG X.K C tail newId) (I : Inv X pins σ H s) (e : H a = some (exo a C none)) (hno : PySem.W.findIn X.K (.ref C) f = some none) (ry : RelV y u)
    (h : ∀ dx s', H dx = none → dx ≠ a → Inv X pins σ (upd (upd H dx (exd dx [(f, y)])) a (exo a C (some dx))) s' → Q () s') : wpAny (model X.prog X.w) A (setAttr (.ref a) f u) Q E s := by
  obtain ⟨cd, hcl, hm, hh⟩ := T.data
  obtain ⟨t1, ho⟩ := exo_at I.hok e
  obtain ⟨hp, gs, dr, t, os⟩ := s
  refine PySem.W.set_plain I.kIn (ox := { cls := .ref C, dict := none, data := .fields #[.ref t1, .none, .none, .none, .bool false, .none] }) (od := none) ⟨ho, rfl, rfl, trivial⟩ T.sa (osa_first bx I.kIn ho hcl hm hh hno fun h2 t2 dx k dn dne hx hn => ?_)
  have hnd : H dx = none := I.hok.fresh dn
  have young : ∀ {b : Addr} {o : Obj}, hp.get? b = some o → b ≠ dx := fun {b o} q => Nat.ne_of_lt (Nat.lt_of_lt_of_le (Heap.lt_size q) dn)
  have not_a : ∀ {b : Addr}, H b = none → b ≠ a := fun {b} n z => by
    rw [z, e] at n
    cases n
  have un : Un X.fs [] H (upd (upd H dx (exd dx [(f, y)])) a (exo a C (some dx))) hp h2 := by
    refine { keep := ?_, slot := ?_, free := ?_, there := ?_, tups := ?_, frzs := ?_, tbls := ?_ }
    · intro b o q n _ _
      exact k b o (not_a n) q
    · intro b o q n _ _
      exact ⟨o.slots, k b o (not_a n) q⟩
    · intro b o q n _
      rw [upd_ne (not_a n), upd_ne (young q)]
      exact n
    · intro b o q _
      by_cases hb : b = a
      · subst hb
        exact ⟨_, hx⟩
      · exact ⟨o, k b o hb q⟩
    · intro b xs q
      rw [upd_ne (at_ne e q exo_tup), upd_ne (ne_of_none q hnd)]
      exact q
    · intro b o v q
      rw [upd_ne (at_ne e q exo_frz), upd_ne (ne_of_none q hnd)]
      exact q
    · intro b ps q
      exact ⟨#[], by rw [upd_ne (at_ne e q exo_tbl), upd_ne (ne_of_none q hnd), q]; simp⟩
  refine h dx _ hnd dne (I.un (t' := t2) un fun b o q => ?_)
  by_cases hb : b = a
  · subst hb
    rw [upd_same] at q
    cases q
    exact exo_ok hx
  · rw [upd_ne hb] at q
    by_cases hd : b = dx
    · subst hd
      rw [upd_same] at q
      cases q
      exact exd_ok hn (relO_put (fs := []) ry fun g => True.intro)
    · rw [upd_ne hd] at q
      refine (I.hok b o q).stay (fun c v hc z => k c v ?_ z) (fun c hc => ?_) fun c xs hc => ?_
      · rcases hc with hc | hc
        · rw [hc]
          exact hb
        · exact at_ne e hc exo_own
      · rw [upd_ne (at_ne e hc exo_own), upd_ne (ne_of_none hc hnd)]
        exact hc
      · rw [upd_ne (at_ne e hc exo_tup), upd_ne (ne_of_none hc hnd)]
        exact hc
/-- self.f = y, a further one -/
theorem ost_again (bx : BaseX tail) (T : OexG X.K C tail newId) (I : Inv X pins σ H s) (e : H a = some (exo a C (some dx))) (ed : H dx = some (exd dx fs)) (hl : fs.length ≤ 900) (hno : PySem.W.findIn X.K (.ref C) f = some none) (ry : RelV y u)
    (h : ∀ s', Inv X pins σ (upd H dx (exd dx ((f, y) :: fs))) s' → Q () s') : wpAny (model X.prog X.w) A (setAttr (.ref a) f u) Q E s := by
  obtain ⟨cd, hcl, hm, hh⟩ := T.data
  obtain ⟨t1, ho⟩ := exo_at I.hok e
  obtain ⟨mA, hns, rel⟩ := exd_at I.hok ed
  have hw := within_of rel
  obtain ⟨hp, gs, dr, t, os⟩ := s
  obtain ⟨oD, _, _, hoD, _, _⟩ := hns.count hw
  have few : (fs.map (·.1)).length ≤ 1000 := by
    rw [List.length_map]
    omega
  refine PySem.W.set_plain I.kIn (ox := { cls := .ref C, dict := some dx, data := .fields #[.ref t1, .none, .none, .none, .bool false, .none] }) (od := some oD) ⟨ho, rfl, rfl, hoD⟩ T.sa (osa_again bx I.kIn ho hns hw few hcl hm hh hno fun h2 t2 k hn => ?_)
  have there : ∃ o, h2.get? dx = some o := by
    obtain ⟨o, _, _, e1, _⟩ := hn
    exact ⟨o, e1⟩
  refine h _ (I.write (t' := t2) (x := dx) (e := dx) (o := exd dx ((f, y) :: fs)) ?_ (.inl rfl) k there (exd_ok hn (relO_put ry rel)))
  rw [ed]
  exact True.intro
end
end Mp
end
section
set_option Elab.async false
set_option linter.all false
set_option maxRecDepth 100000
set_option maxHeartbeats 4000000
/-! Mp: the defs __init__ of exceptions, and the making of one. -/
namespace Mp
open PySem PySem.Spec PyProof.Rows L2 PySem.MpX
/-- what the __init__ of an exception does: ys -> the fields -/
def spX (K : PySem.W.Frag) (tail : List Value) (newId : String) (names : List Str) (fin : List V → Option (List (Str × V))) : Sp := fun vs H Q E => ∃ a C ys fls, vs = .ref a :: ys ∧ fin ys = some fls ∧ OexG K C tail newId ∧ (∀ f ∈ names, PySem.W.findIn K (.ref C) f = some none) ∧ H a = some (exo a C none) ∧
  ∀ d H2, H d = none → d ≠ a → H2 a = some (exo a C (some d)) → H2 d = some (exd d fls) → (∀ b, b ≠ a → b ≠ d → H2 b = H b) → Q .non H2
/-- self.f = e -/
def tOstG (K : PySem.W.Frag) (tail : List Value) (newId : String) (f : Str) (to te : TE) : TS := fun D σ H => te σ H fun y H1 => to σ H1 fun x H2 => ∃ a C : Addr, x = .ref a ∧ OexG K C tail newId ∧ PySem.W.findIn K (.ref C) f = some none ∧
  ((H2 a = some (exo a C none) ∧ ∀ dx, H2 dx = none → dx ≠ a → D.nx σ (upd (upd H2 dx (exd dx [(f, y)])) a (exo a C (some dx)))) ∨
    ∃ (dx : Addr) (fs : List (Str × V)), H2 a = some (exo a C (some dx)) ∧ H2 dx = some (exd dx fs) ∧ fs.length ≤ 900 ∧ D.nx σ (upd H2 dx (exd dx ((f, y) :: fs))))
section
variable {X : Cx} {tail : List Value} {newId : String}
theorem ps_ostG {o e : PySem.Expr} {to te : TE} {f : Str} {p' pos : Pos} (bx : BaseX tail) (ho : PE X o to) (he : PE X e te) (hs : swapsWith e (some (.Attribute o f p')) pos.line X.env = pure false) : PS X (.Assign [.Attribute o f p'] e pos) (tOstG X.K tail newId f to te) := by
  refine ⟨fun pins s σ H D I h => ?_⟩
  refine plainObj_wpAny_Assign_Attribute (thn (he.run pins s σ H _ I h) fun v s1 ⟨y, H1, I1, ry, q1⟩ => thn (ho.run pins s1 σ H1 _ I1 q1) fun u s2 ⟨x, H2, I2, rx, a, C, ex, T, hno, q⟩ => ?_) hs
  subst ex
  obtain rfl : u = Value.ref a := rx
  rcases q with ⟨ea, q⟩ | ⟨dx, fs, ea, ed, hl, q⟩
  · exact ost_first bx T I2 ea hno ry fun dx s' n ne J => ⟨σ, _, J, q dx n ne⟩
  · exact ost_again bx T I2 ea ed hl hno ry fun s' J => ⟨σ, _, J, q⟩
/-- Base.__init__(self, ..): an own class's def read off the class -/
theorem pe_base {Z : CXT} {k : Nat} {CB fB : Addr} {fd : FuncData} {ps : List Str} {sp : Sp} {E : L2.St → XK} {x : Str} {mc : Value} {p pos apos : Pos} {es : List PySem.Expr} {t : TA} (F : FnOk X.prog X.w X.K X.mg X.base Z k fB fd ps sp) (hr : Room k X.A) (hg : Gl X x) (hm : X.mg x = some (.ref CB)) (r : ClX.CRead X.K CB mc) (c : ClX.CVal X.K CB mc "__init__" (.ref fB) (.ref fB))
    (hk : PySem.W.keepIn X.K (.ref fB) = true) (hb : Binds X.K fd ps []) (hx : ∀ σ, PassesAt Z X σ (E σ)) (ha : PA X es t) (hp : plainAllB es = true) (hn : es = [] → ∀ σ H Q, t σ H Q → Q [] H) (hdb : (x == ("__debug__" : Str)) = false) (hl : (apos.endLine == pos.line) = true) (hz : es.length < 20) :
    PE X (.Call (.Attribute (.Name x p) "__init__" apos) es [] pos) (tCallSD sp [] E t) := by
  refine ⟨fun pins s σ H Q I h => ?_⟩
  refine PySem.W.methodCall_KW (ld_glob I hg hm ?_ hdb) (meth_form rfl hl (few_of hp hz))
  refine PySem.W.method_cls I.kIn r.ga (ClX.getcval_ok I r c fun s' I' => ?_)
  exact call_args (first := []) I' hk ha hp (fun e H Q => hn e σ H Q) h fun us s2 vs H2 I2 r2 q2 => run_fnSD (ds := []) (dvs := []) F hr hb .nil (hx σ) I2 r2 q2
end
/-- self.f = f for each of them -/
def okXs : List Str → List Stmt → Bool
  | [], [] => true
  | f :: fs, .Assign [.Attribute (.Name s _) g _] (.Name x _) _ :: r => decide (s = "self") && decide (g = f) && decide (x = f) && okXs fs r
  | _, _ => false
/-- Base.__init__(self, 'w'), then the fields -/
def okXI (B w : Str) (fs : List Str) : List Stmt → Bool
  | .Expr (.Call (.Attribute (.Name b _) m ap) [.Name s _, .Constant (.str z) _ _] [] p) _ :: r => decide (b = B) && decide (m = "__init__") && decide (s = "self") && decide (z = w) && oneLine ap p && okXs fs r
  | _ => false
section
variable {X : Cx} {tail : List Value} {newId : String}
theorem xs_run (bx : BaseX tail) (hN0 : X.N[0]? = some ("self" : Str)) (v0 : Vis X.env.scope "self") : ∀ (fs : List Str) (i : Nat) {ss : List Stmt}, okXs fs ss = true → (∀ j f, fs[j]? = some f → X.N[i + j]? = some f ∧ Vis X.env.scope f ∧ (f == ("__debug__" : Str)) = false ∧ (f == ("__classdict__" : Str)) = false) →
    ∃ t, PSs X ss t ∧ ∀ (D : Ends) (σ : L2.St) (H : Hp) (a C d : Addr) (cur : List (Str × V)) (ys : List V), σ[0]? = some (some (.ref a)) → ys.length = fs.length → (∀ j y, ys[j]? = some y → σ[i + j]? = some (some y)) → OexG X.K C tail newId → (∀ f ∈ fs, PySem.W.findIn X.K (.ref C) f = some none) → H a = some (exo a C (some d)) → H d = some (exd d cur) → d ≠ a → cur.length + fs.length ≤ 900 →
      (∀ H2, H2 a = some (exo a C (some d)) → H2 d = some (exd d ((fs.zip ys).reverse ++ cur)) → (∀ b, b ≠ d → H2 b = H b) → D.nx σ H2) → t D σ H
  | [], i, ss, h, hN => by
    cases ss with
    | cons _ _ => cases h
    | nil => exact ⟨_, pss_nil, fun D σ H a C d cur ys s0 hl hy T no ea ed ne hz k => k H ea (by simpa using ed) fun b _ => rfl⟩
  | f :: fs, i, ss, h, hN => by
    cases ss with
    | nil => cases h
    | cons s0 ss =>
      cases s0 with
      | Assign ts e pos => cases ts with
        | nil => cases h
        | cons t1 ts => cases ts with
          | cons _ _ => cases t1 <;> first | (cases h; done) | (rename_i v _ _; cases v <;> cases h)
          | nil => cases t1 with
            | Attribute v g pa => cases v with
              | Name sn pn => cases e with
                | Name x px =>
                  obtain ⟨h1, h2⟩ := band h
                  obtain ⟨h3, h4⟩ := band h1
                  obtain ⟨h5, h6⟩ := band h3
                  have e1 := of_decide_eq_true h5
                  have e2 := of_decide_eq_true h6
                  have e3 := of_decide_eq_true h4
                  subst e1
                  subst e2
                  subst e3
                  obtain ⟨n1, n2, n3, n4⟩ := hN 0 _ rfl
                  obtain ⟨t, pt, kt⟩ := xs_run bx hN0 v0 fs (i + 1) h2 fun j f' hj => by
                    have := hN (j + 1) f' (by simpa using hj)
                    rw [show i + 1 + j = i + (j + 1) by omega]
                    exact this
                  refine ⟨_, pss_cons (ps_ostG (newId := newId) bx (pe_var hN0 v0 (by decide) (by decide)) (pe_var (i := i + 0) n1 n2 n3 n4) rfl) pt, ?_⟩
                  intro D σ H a C d cur ys s0 hl hy T no ea ed ne hz k
                  cases ys with
                  | nil => cases hl
                  | cons y ys =>
                    refine ⟨y, hy 0 y rfl, V.ref a, s0, a, C, rfl, T, no _ List.mem_cons_self, .inr ⟨d, cur, ea, ed, by simp at hz; omega, ?_⟩⟩
                    refine kt D σ _ a C d ((_, y) :: cur) ys s0 (by simpa using hl) (fun j z hj => ?_) T (fun f' hf => no f' (List.mem_cons_of_mem _ hf)) (by rw [upd_ne (Ne.symm ne)]; exact ea) upd_same ne (by simp at hz ⊢; omega) fun H2 a2 d2 k2 => k H2 a2 ?_ fun b hb => (k2 b hb).trans (upd_ne hb)
                    · have := hy (j + 1) z (by simpa using hj)
                      rw [show i + 1 + j = i + (j + 1) by omega]
                      exact this
                    · rw [d2]
                      simp
                | _ => cases h
              | _ => cases h
            | _ => cases h
      | _ => cases h
end
section
variable {X : Cx} {tail : List Value} {newId : String}
theorem xw_run (bx : BaseX tail) (hN0 : X.N[0]? = some ("self" : Str)) (v0 : Vis X.env.scope "self") (hN1 : X.N[1]? = some ("word" : Str)) (v1 : Vis X.env.scope "word") {ss : List Stmt} (h : okXs ["word"] ss = true) :
    ∃ t, PSs X ss t ∧ ∀ (D : Ends) (σ : L2.St) (H : Hp) (a C : Addr) (y : V), σ[0]? = some (some (.ref a)) → σ[1]? = some (some y) → OexG X.K C tail newId → PySem.W.findIn X.K (.ref C) "word" = some none → H a = some (exo a C none) →
      (∀ dx, H dx = none → dx ≠ a → D.nx σ (upd (upd H dx (exd dx [(("word" : Str), y)])) a (exo a C (some dx)))) → t D σ H := by
  cases ss with
  | nil => cases h
  | cons s0 ss =>
    cases s0 with
    | Assign ts e pos => cases ts with
      | nil => cases h
      | cons t1 ts => cases ts with
        | cons _ _ => cases t1 <;> first | (cases h; done) | (rename_i v _ _; cases v <;> cases h)
        | nil => cases t1 with
          | Attribute v g pa => cases v with
            | Name sn pn => cases e with
              | Name x px =>
                obtain ⟨h1, h2⟩ := band h
                obtain ⟨h3, h4⟩ := band h1
                obtain ⟨h5, h6⟩ := band h3
                have e1 := of_decide_eq_true h5
                have e2 := of_decide_eq_true h6
                have e3 := of_decide_eq_true h4
                subst e1
                subst e2
                subst e3
                cases ss with
                | cons _ _ => cases h2
                | nil =>
                  refine ⟨_, pss_one (ps_ostG (newId := newId) bx (pe_var hN0 v0 (by decide) (by decide)) (pe_var hN1 v1 (by decide) (by decide)) rfl), ?_⟩
                  intro D σ H a C y s0 s1 T no ea k
                  exact ⟨y, s1, V.ref a, s0, a, C, rfl, T, no, .inl ⟨ea, k⟩⟩
              | _ => cases h
            | _ => cases h
          | _ => cases h
    | _ => cases h
/-- what a derived __init__ does -/
theorem xi_run {Z : CXT} {k : Nat} {CB fB : Addr} {fd : FuncData} {ps : List Str} {B w : Str} {mc : Value} {fs : List Str} {E : XK} (bx : BaseX tail) (F : FnOk X.prog X.w X.K X.mg X.base Z k fB fd ps (spX X.K tail newId ["word"] fun ys => match ys with
      | [y] => some [(("word" : Str), y)]
      | _ => none)) (hr : Room k X.A) (hg : Gl X B) (hm : X.mg B = some (.ref CB)) (r : ClX.CRead X.K CB mc) (c : ClX.CVal X.K CB mc "__init__" (.ref fB) (.ref fB)) (hk : PySem.W.keepIn X.K (.ref fB) = true) (hb : Binds X.K fd ps []) (hx : ∀ σ, PassesAt Z X σ E) (hdb : (B == ("__debug__" : Str)) = false)
    (hN0 : X.N[0]? = some ("self" : Str)) (v0 : Vis X.env.scope "self") (hN : ∀ j f, fs[j]? = some f → X.N[1 + j]? = some f ∧ Vis X.env.scope f ∧ (f == ("__debug__" : Str)) = false ∧ (f == ("__classdict__" : Str)) = false) {ss : List Stmt} (h : okXI B w fs ss = true) :
    ∃ t, PSs X ss t ∧ ∀ (D : Ends) (σ : L2.St) (H : Hp) (a C : Addr) (ys : List V), σ[0]? = some (some (.ref a)) → ys.length = fs.length → (∀ j y, ys[j]? = some y → σ[1 + j]? = some (some y)) → OexG X.K C tail newId → (∀ f ∈ ("word" : Str) :: fs, PySem.W.findIn X.K (.ref C) f = some none) → H a = some (exo a C none) → fs.length ≤ 800 →
      (∀ d H2, H d = none → d ≠ a → H2 a = some (exo a C (some d)) → H2 d = some (exd d (mkFs (V.str w) fs ys)) → (∀ b, b ≠ a → b ≠ d → H2 b = H b) → D.nx σ H2) → t D σ H := by
  cases ss with
  | nil => cases h
  | cons s0 ss =>
    cases s0 with
    | Expr e pos => cases e with
      | Call fn as kws cpos => cases fn with
        | Attribute o m ap => cases o with
          | Name b pb => cases as with
            | nil => cases h
            | cons a1 as => cases as with
              | nil => cases a1 <;> cases h
              | cons a2 as => cases as with
                | cons _ _ => cases a1 <;> first | (cases h; done) | (cases a2 <;> first | (cases h; done) | (rename_i cc _ _; cases cc <;> cases h))
                | nil => cases a1 with
                  | Name sn ps' => cases a2 with
                    | Constant cc j pc => cases cc with
                      | str z => cases kws with
                        | cons _ _ => cases h
                        | nil =>
                          obtain ⟨h1, h2⟩ := band h
                          obtain ⟨h3, hone⟩ := band h1
                          obtain ⟨h4, hz⟩ := band h3
                          obtain ⟨h5, hs⟩ := band h4
                          obtain ⟨h6, hm'⟩ := band h5
                          have e1 := of_decide_eq_true h6
                          have e2 := of_decide_eq_true hm'
                          have e3 := of_decide_eq_true hs
                          have e4 := of_decide_eq_true hz
                          subst e1
                          subst e2
                          subst e3
                          subst e4
                          obtain ⟨t, pt, kt⟩ := xs_run (newId := newId) bx hN0 v0 fs 1 h2 hN
                          have pa : PA X [.Name "self" ps', .Constant (.str z) j pc] (tCons (tVar 0) (tCons (tC (.str z)) tNil)) := pa_cons (pe_var hN0 v0 (by decide) (by decide)) (pa_cons pe_str pa_nil)
                          refine ⟨_, pss_cons (ps_expr (pe_base (E := fun _ => E) F hr hg hm r c hk hb hx pa rfl (fun e => nomatch e) hdb hone (by show 2 < 20; decide)) rfl) pt, ?_⟩
                          intro D σ H a C ys s0 hl hy T no ea hz k
                          refine ⟨.ref a, s0, a, C, [V.str z], _, rfl, rfl, T, fun f hf => ?_, ea, fun d H2 nd ne a2 d2 k2 => ?_⟩
                          · rw [List.mem_singleton.mp hf]
                            exact no _ List.mem_cons_self
                          · refine kt D σ H2 a C d [(("word" : Str), .str z)] ys s0 hl hy T (fun f hf => no f (List.mem_cons_of_mem _ hf)) a2 d2 ne (by simp; omega) fun H3 a3 d3 k3 => k d H3 nd ne a3 d3 fun b b1 b2 => (k3 b b2).trans (k2 b b1 b2)
                      | _ => cases h
                    | _ => cases h
                  | _ => cases h
          | _ => cases h
        | _ => cases h
      | _ => cases h
    | _ => cases h
end
end Mp
end
section
set_option Elab.async false
set_option linter.all false
set_option maxRecDepth 100000
set_option maxHeartbeats 4000000
/-! Mp: raising. -/
namespace Mp
open PySem PySem.Spec PyProof.Rows L2 PySem.MpX
def finW : List V → Option (List (Str × V)) := fun ys => match ys with
  | [y] => some [(("word" : Str), y)]
  | _ => none
def finD (w : Str) (fs : List Str) : List V → Option (List (Str × V)) := fun ys => if ys.length = fs.length then some (mkFs (V.str w) fs ys) else none
section
variable {pr : Program} {wl : World} {K : PySem.W.Frag} {mg : Str → Option Value} {base : Heap} {tail : List Value} {newId : String}
/-- a def as the written part holds it -/
structure DefX (K : PySem.W.Frag) (f : Addr) (x qual : Str) (st : Stmt) (fd : FuncData) : Prop where
  it : ∃ (oc dV kV doc pm cdv ct : Value) (od an : Option Addr) (osl : Array (Option Value)), fd = PySem.W.fnOf x qual (defArgs st) (defBody st) (defScope st) dV kV doc pm an cdv ct ∧ K.lookup f = some ⟨oc, od, .func fd, osl⟩ ∧ PySem.W.codeIn K cdv qual = true
theorem start_at {N : List Str} {vs : List V} {i : Nat} {v : V} (h : vs[i]? = some v) : (L2.start N vs)[i]? = some (some v) := by
  unfold L2.start
  have hi : i < vs.length := (List.getElem?_eq_some_iff.mp h).1
  rw [List.getElem?_append_left (by simpa using hi), List.getElem?_map, h]
  rfl
theorem fn_word {f : Addr} {x qual : Str} {st : Stmt} {fd : FuncData} (bx : BaseX tail) (D : DefX K f x qual st fd) (S : FnScope ["self", "word"] ["self", "word"] (defScope st)) (ok : okXs ["word"] (defBody st) = true) :
    FnOk pr wl K mg base (L2.CX pr wl) 1 f fd ["self", "word"] (spX K tail newId ["word"] finW) := by
  obtain ⟨oc, dV, kV, doc, pm, cdv, ct, od, an, osl, rfl, lk, hcd⟩ := D.it
  refine fn_of (k := 0) lk hcd S (fun vs H Q E h => ?_) fun A outer s H vs Q E hr h => ?_
  · obtain ⟨a, C, ys, fls, rfl, e, _⟩ := h
    cases ys with
    | nil => cases e
    | cons y t => cases t with
      | nil => rfl
      | cons _ _ => cases e
  · obtain ⟨a, C, ys, fls, rfl, e, T, no, ea, k⟩ := h
    cases ys with
    | nil => cases e
    | cons y t => cases t with
      | cons _ _ => cases e
      | nil =>
        cases e
        have vis : ∀ z ∈ (["self", "word"] : List Str), Vis (defScope st) z := fun z hz => by
          rcases S.par z hz with q | q
          · exact .inl q
          · exact .inr (.inl q)
        obtain ⟨t, pt, kt⟩ := xw_run (X := cxOf (L2.CX pr wl) pr wl K mg base ["self", "word"] qual (defScope st) f cdv A outer s H E) (newId := newId) bx rfl (vis _ (by simp)) rfl (vis _ (by simp)) ok
        refine ⟨t, pt, kt _ _ _ a C y (start_at rfl) (start_at rfl) T (no _ (by simp)) ea fun dx n ne => ?_⟩
        exact k dx _ n ne upd_same (by rw [upd_ne ne]; exact upd_same) fun b hb1 hb2 => by rw [upd_ne hb1, upd_ne hb2]
theorem fn_derived {f CB fB : Addr} {x qual x2 qual2 B w : Str} {st st2 : Stmt} {fd fd2 : FuncData} {mc : Value} {fs : List Str} (bx : BaseX tail) (D : DefX K f x qual st fd) (S : FnScope ("self" :: fs) ("self" :: fs) (defScope st)) (ok : okXI B w fs (defBody st) = true) (hfs : fs.length ≤ 800) (hdun : fs.all (fun f => !(f == ("__debug__" : Str)) && !(f == ("__classdict__" : Str))) = true)
    (F : FnOk pr wl K mg base (L2.CX pr wl) 1 fB fd2 ["self", "word"] (spX K tail newId ["word"] finW)) (hb : Binds K fd2 ["self", "word"] []) (hg : gloB (defScope st) B = true) (hm : mg B = some (.ref CB)) (r : ClX.CRead K CB mc) (c : ClX.CVal K CB mc "__init__" (.ref fB) (.ref fB)) (hk : PySem.W.keepIn K (.ref fB) = true) (hdb : (B == ("__debug__" : Str)) = false) :
    FnOk pr wl K mg base (L2.CX pr wl) 2 f fd ("self" :: fs) (spX K tail newId ("word" :: fs) (finD w fs)) := by
  obtain ⟨oc, dV, kV, doc, pm, cdv, ct, od, an, osl, rfl, lk, hcd⟩ := D.it
  have len : ∀ {ys fls}, finD w fs ys = some fls → ys.length = fs.length ∧ fls = mkFs (V.str w) fs ys := fun {ys fls} e => by
    unfold finD at e
    split at e
    · rename_i hl
      cases e
      exact ⟨hl, rfl⟩
    · cases e
  refine fn_of (k := 1) lk hcd S (fun vs H Q E h => ?_) fun A outer s H vs Q E hr h => ?_
  · obtain ⟨a, C, ys, fls, rfl, e, _⟩ := h
    simp [(len e).1]
  · obtain ⟨a, C, ys, fls, rfl, e, T, no, ea, k⟩ := h
    obtain ⟨hl, rfl⟩ := len e
    have vis : ∀ z ∈ ("self" : Str) :: fs, Vis (defScope st) z := fun z hz => by
      rcases S.par z hz with q | q
      · exact .inl q
      · exact .inr (.inl q)
    have tk : Takes (cxOf (L2.CX pr wl) pr wl K mg base ("self" :: fs) qual (defScope st) f cdv A outer s H E) (fun cls d _ H => E cls d H) := takes_of rfl rfl rfl rfl
    have hgl : Gl (cxOf (L2.CX pr wl) pr wl K mg base ("self" :: fs) qual (defScope st) f cdv A outer s H E) B := by
      unfold gloB at hg
      split at hg
      · rename_i q
        exact q
      · cases hg
    obtain ⟨t, pt, kt⟩ := xi_run (X := cxOf (L2.CX pr wl) pr wl K mg base ("self" :: fs) qual (defScope st) f cdv A outer s H E) (newId := newId) (E := E) (w := w) bx F hr hgl hm r c hk hb (fun σ => passAt tk σ) hdb rfl (vis _ List.mem_cons_self) (fun j f' hj => by
      have hmem : f' ∈ fs := List.mem_of_getElem? hj
      have := List.all_eq_true.mp hdun f' hmem
      obtain ⟨d1, d2⟩ := band this
      refine ⟨?_, vis f' (List.mem_cons_of_mem _ hmem), by simpa using d1, by simpa using d2⟩
      show (("self" : Str) :: fs)[1 + j]? = some f'
      rw [Nat.add_comm]
      simpa using hj) ok
    refine ⟨t, pt, kt _ _ _ a C ys (start_at rfl) hl (fun j y hy => start_at (by rw [Nat.add_comm]; simpa using hy)) T no ea hfs k⟩
/-- C(..), an exception -/
theorem pmk_G {X : Cx} {B initId : String} {C fI : Addr} {x : Str} {fd : FuncData} {ps : List Str} {names : List Str} {fin : List V → Option (List (Str × V))} {p pos : Pos} {es : List PySem.Expr} {ta : TA} {lev : Nat} (bf : ExcBaseFacts B newId initId tail) (T : OexG X.K C tail newId) (no : ∀ f ∈ names, PySem.W.findIn X.K (.ref C) f = some none)
    (iC : PySem.W.findIn X.K (.ref C) "__init__" = some (some (.ref fI))) (tI : PySem.W.typeIn X.K (.ref fI) = some (.type "function")) (F : FnOk X.prog X.w X.K X.mg X.base (L2.CX X.prog X.w) lev fI fd ps (spX X.K tail newId names fin)) (hr : Room (lev + 1) X.A) (hb : Binds X.K fd ps [])
    (hg : Gl X x) (hm : X.mg x = some (.ref C)) (ha : PA X es ta) (hp : plainAllB es = true) (hn : es = [] → ∀ σ H Q, ta σ H Q → Q [] H) (hdb : (x == ("__debug__" : Str)) = false) :
    PMk X (.Call (.Name x p) es [] pos) (fun σ H Q => ta σ H fun vs H1 => vs.length ≤ 1000 ∧ ∃ fls, fin vs = some fls ∧ ∀ d, H1 d = none → Q (.ref C) (some d) (upd H1 d (.xd fls))) := by
  intro pins s σ H Q I h
  obtain ⟨nm, q, N, bs, bm, sn, sub, ab, col, dd, k0, k1, k2, k3, k5, hC, hbm⟩ := T.cls
  have hT : ∀ Y : String, bm.contains (.type Y) = tail.contains (.type Y) := fun Y => refsT_contains Y bm hbm
  refine wpAny_Call_Name_kw (ld_glob I hg hm ?_ hdb)
  refine call_args (first := []) I T.kC ha hp (fun e H Q => hn e σ H Q) h fun us s1 vs H1 I1 r1 q1 => ?_
  obtain ⟨hz, fls, hf, qd⟩ := q1
  show wpAny _ _ (call (.ref C) us) _ _ _
  obtain ⟨hp, gs, dr, tk, os⟩ := s1
  have hsz : hp.objs.size ≤ hp.objs.size + 1 := Nat.le_succ _
  have fresh : H1 (hp.objs.size + 1) = none := I1.hok.fresh hsz
  have old : ∀ b o, hp.get? b = some o → ((hp.push (PySem.W.kdv_tup us)).push (PySem.HandSPX.excO C hp.objs.size)).get? b = some o := fun b o e => Heap.get?_push_of_some _ (Heap.get?_push_of_some _ e)
  have here : ((hp.push (PySem.W.kdv_tup us)).push (PySem.HandSPX.excO C hp.objs.size)).get? (hp.objs.size + 1) = some (PySem.HandSPX.excO C hp.objs.size) := by heap_get
  have I2 : Inv X pins σ (upd H1 (hp.objs.size + 1) (exo (hp.objs.size + 1) C none)) ⟨(hp.push (PySem.W.kdv_tup us)).push (PySem.HandSPX.excO C hp.objs.size), gs, dr, tk, os⟩ :=
    I1.laid (t' := tk) (a := hp.objs.size + 1) (o := exo (hp.objs.size + 1) C none) (h' := (hp.push (PySem.W.kdv_tup us)).push (PySem.HandSPX.excO C hp.objs.size)) old hsz (exo_ok here)
  have r2 : Vals (V.ref (hp.objs.size + 1) :: vs) (Value.ref (hp.objs.size + 1) :: us) := .cons rfl r1
  let Q2 : VK := fun v H2 => v = .non ∧ ∃ (d : Addr) (fs : List (Str × V)), H2 (hp.objs.size + 1) = some (exo (hp.objs.size + 1) C (some d)) ∧ H2 d = some (exd d fs) ∧ H1 d = none ∧ Q (.ref C) (some d) (upd (del H2 (hp.objs.size + 1)) d (.xd fs))
  have hq : spX X.K tail newId names fin (V.ref (hp.objs.size + 1) :: vs) (upd H1 (hp.objs.size + 1) (exo (hp.objs.size + 1) C none)) Q2 (fun _ _ _ => False) := by
    refine ⟨hp.objs.size + 1, C, vs, fls, rfl, hf, T, no, upd_same, fun d H2 nd ne a2 d2 kk => ?_⟩
    have nd1 : H1 d = none := by
      rw [upd_ne ne] at nd
      exact nd
    refine ⟨rfl, d, fls, a2, d2, nd1, ?_⟩
    have eq : upd (del H2 (hp.objs.size + 1)) d (.xd fls) = upd H1 d (.xd fls) := by
      funext b
      by_cases hb : b = d
      · rw [hb, upd_same, upd_same]
      · rw [upd_ne hb, upd_ne hb]
        by_cases hb2 : b = hp.objs.size + 1
        · rw [hb2, del_same, fresh]
        · rw [del_ne hb2, kk b hb2 hb, upd_ne hb2]
    rw [eq]
    exact qd d nd1
  have hl : (Value.ref (hp.objs.size + 1) :: us).length = ps.length := by
    have e := F.len _ _ _ _ hq
    rw [← e]
    exact r2.length.symm
  have hus : us.length ≤ sizeLine := by
    rw [← Paired.length r1]
    exact line_le (by omega)
  have bnd := hb _ (Value.ref (hp.objs.size + 1) :: us) I2.kIn (by rw [List.append_nil]; exact hl)
  rw [List.append_nil] at bnd
  refine wpAny_call (PySem.HandSPX.call_own bf hT (I1.kIn _ _ hC) (PySem.W.looks_findIn I1.kIn iC) (fun self => PySem.W.bind_fn I1.kIn self tI) hus
    (codeAny_mono (F.run _ X.stack _ _ ⟨Value.ref (hp.objs.size + 1) :: us, []⟩ (Value.ref (hp.objs.size + 1) :: us) _ Q2 (fun _ _ _ => False) (hr.make C us []) (I2.env0.make C us []) bnd r2 hq) fun rr s2 back => ?_))
  cases rr with
  | error er => exact passL pins σ _ _ er s2 I2 back
  | ok fl =>
    cases fl with
    | ret u =>
      obtain ⟨v, H2, os2, bare2, un2, hok2, rv, ev, d, fs2, ea, ed, hd1, q2⟩ := back
      subst ev
      obtain ⟨h2, g2, d2, t2, os'⟩ := s2
      exact ⟨rv, mk_end (raises_own T.exC T.tyC) I1 hsz old un2 hok2 os2 bare2 ea ed hd1 q2⟩
    | next => exact back.elim
    | brk => exact back.elim
    | cont => exact back.elim
end
end Mp
end
section
set_option Elab.async false
set_option linter.all false
set_option maxRecDepth 100000
set_option maxHeartbeats 2000000
/-! Mp: what the head tells, over the objects that the module's names reach. -/
namespace Mp
open PySem PySem.Spec PyProof.Rows L2 PySem.MpX
/-! ### exceptions' classes -/
theorem oexB_ok {K : PySem.W.Frag} {C : Addr} {tail : List Value} {newId : String} (h : oexB K C tail newId = true) : OexG K C tail newId := by
  obtain ⟨h, h5⟩ := band h
  obtain ⟨h, h4⟩ := band h
  obtain ⟨h, h3⟩ := band h
  obtain ⟨h1, h2⟩ := band h
  refine ⟨?_, of_decide_eq_true h2, of_decide_eq_true h3, of_decide_eq_true h4, h5⟩
  split at h1
  · rename_i dd cd sl q
    split at h1
    · rename_i C2 bm k0 k1 k2 k3 n k5 hm hs
      obtain ⟨h1, r5⟩ := band h1
      obtain ⟨h1, r4⟩ := band h1
      obtain ⟨h1, r3⟩ := band h1
      obtain ⟨r1, r2⟩ := band h1
      have e1 : C2 = C := eq_of_beq r1
      have e2 : n = newId := eq_of_beq r2
      subst e1
      subst e2
      have e3 : cd.hasDel = false := by simpa using r3
      obtain ⟨c1, c2, c3, c4, c5, c6, c7, c8, c9, c10, c11⟩ := cd
      dsimp only at hm e3 r4
      subst hm
      subst e3
      subst r4
      have e4 : sl = #[k0, k1, k2, k3, some (.builtin n), k5] := by
        obtain ⟨l⟩ := sl
        have hs : l = _ := hs
        rw [hs]
      subst e4
      exact ⟨c1, c5, c4, c2, bm, c7, c8, c9, c10, dd, k0, k1, k2, k3, k5, q, r5⟩
    · cases h1
  · cases h1
theorem bx_ve : BaseX [.type "ValueError", .type "Exception", .type "BaseException", .type "object"] := ⟨rfl, by decide +kernel, fun self => PySem.F.store_ValueError.passes self⟩
theorem bx_le : BaseX [.type "LookupError", .type "Exception", .type "BaseException", .type "object"] := ⟨rfl, by decide +kernel, fun self => PySem.F.store_LookupError.passes self⟩
end Mp
end
section
set_option Elab.async false
set_option linter.all false
set_option maxRecDepth 100000
set_option maxHeartbeats 2000000
/-! Mp: the facts of a text, read off what the head tells. -/
namespace Mp
open PySem PySem.Spec PyProof.Rows L2 PySem.MpX
def Tbl.G (t : Tbl) (K : PySem.W.Frag) (w : World) : Cfg := ⟨K, w, He.ga K, t.fA K⟩
theorem valB_ok {t : Tbl} {K : PySem.W.Frag} {w : World} {d : D} {u : Value} (h : valB t K d u = true) : ∃ v, RelV v u ∧ ∀ ρ H, RelP (t.G K w) ρ H d v := by
  cases d with
  | non => cases u <;> first | (cases h; done) | exact ⟨.non, rfl, fun _ _ => rfl⟩
  | bl a =>
    cases u <;> first | (cases h; done) | skip
    have e := eq_of_beq h
    subst e
    exact ⟨.bl a, rfl, fun _ _ => rfl⟩
  | int a =>
    cases u <;> first | (cases h; done) | skip
    rename_i j tk
    have e : a = j := of_decide_eq_true h
    subst e
    exact ⟨.int a, ⟨tk, rfl⟩, fun _ _ => rfl⟩
  | str a =>
    cases u <;> first | (cases h; done) | skip
    rename_i j tk
    have e : a = j := of_decide_eq_true h
    subst e
    exact ⟨.str a, ⟨tk, rfl⟩, fun _ _ => rfl⟩
  | fn f =>
    cases u <;> first | (cases h; done) | skip
    rename_i a
    have e : t.fA K f = a := of_decide_eq_true h
    exact ⟨.ref a, rfl, fun _ _ => by rw [← e]; rfl⟩
  | _ => cases u <;> cases h
theorem wdE_ok {t : Tbl} {K : PySem.W.Frag} {w : World} : ∀ {fs : List (Str × D)} {es : List DictEntry}, wdE t K fs es = true → ∃ fs' : List (Str × V), (∀ ρ H, RelPf (t.G K w) ρ H fs fs') ∧ es.any (·.refKey) = false ∧
    ∀ z : Str, match fs'.lookup z with
      | some v => ∃ e, es.find? (·.key.isStr z) = some e ∧ RelV v e.val
      | none => es.find? (·.key.isStr z) = none
  | [], [], _ => ⟨[], fun _ _ => rfl, rfl, fun z => rfl⟩
  | [], _ :: _, h => by cases h
  | _ :: _, [], h => by cases h
  | (k, d) :: r, e :: es, h => by
    obtain ⟨h1, h2⟩ := band (show ((match e.key with
      | .str x _ => decide (x = k)
      | _ => false) && !e.refKey && valB t K d e.val && wdE t K r es) = true from h)
    obtain ⟨h3, h4⟩ := band h1
    obtain ⟨h5, h6⟩ := band h3
    obtain ⟨fs', i1, i2, i3⟩ := wdE_ok (w := w) h2
    obtain ⟨v, v1, v2⟩ := valB_ok (w := w) h4
    refine ⟨(k, v) :: fs', fun ρ H => ⟨v, fs', rfl, v2 ρ H, i1 ρ H⟩, by rw [List.any_cons, i2]; simpa using h6, fun z => ?_⟩
    have ek : ∃ tk, e.key = .str k tk := by
      split at h5
      · rename_i x tk q
        rw [← of_decide_eq_true h5]
        exact ⟨tk, q⟩
      · cases h5
    obtain ⟨tk, ek⟩ := ek
    by_cases q : z = k
    · subst q
      have b : (z == z) = true := by simp
      simp only [List.lookup, b]
      refine ⟨e, ?_, v1⟩
      rw [List.find?_cons]
      have : e.key.isStr z = true := by
        rw [ek]
        show (z == z) = true
        simp
      rw [this]
    · have b : (z == k) = false := by simpa using q
      have := i3 z
      simp only [List.lookup, b]
      rw [List.find?_cons]
      have nk : e.key.isStr z = false := by
        rw [ek]
        show (k == z) = false
        simpa using fun y => q y.symm
      rw [nk]
      exact this
theorem wdB_ok {t : Tbl} {K : PySem.W.Frag} {w : World} {fs : List (Str × D)} {a : Addr} (h : wdB t K fs a = true) (kd : ∃ es n, KDict K w a es n) : ∀ ρ H, RelP (t.G K w) ρ H (.wd fs) (.ref a) := by
  unfold wdB at h
  cases q : K.lookup a with
  | none =>
    rw [q] at h
    cases h
  | some o =>
    obtain ⟨oc, od, dt, osl⟩ := o
    rw [q] at h
    cases dt with
    | dict es n =>
      obtain ⟨fs', i1, i2, i3⟩ := wdE_ok (w := w) h
      refine fun ρ H => ⟨a, fs', rfl, ⟨kd, fun z => ?_⟩, i1 ρ H⟩
      have e : PySem.W.nsIn K a z = (match es.toList.find? (·.key.isStr z) with
        | some e => some (some e.val)
        | none => if es.toList.any (·.refKey) then none else some none) := by
        unfold PySem.W.nsIn
        rw [q]
        rfl
      have := i3 z
      cases r : fs'.lookup z with
      | none =>
        rw [r] at this
        refine ⟨none, ?_, rfl⟩
        show PySem.W.nsIn K a z = _
        rw [e, this, i2]
        rfl
      | some v =>
        rw [r] at this
        obtain ⟨en, e1, e2⟩ := this
        refine ⟨some en.val, ?_, en.val, rfl, e2⟩
        show PySem.W.nsIn K a z = _
        rw [e, e1]
    | _ => cases h
theorem globB_ok {t : Tbl} {K : PySem.W.Frag} {w : World} {h : Heap} {mg : Str → Option Value} {x : Str} {d : D} (X : K.In h) (G : h.Ns mainGlobals mg) (c : globB t K x d = true) (kd : ∀ fs, d = .wd fs → ∃ es n, KDict K w (He.ga K x) es n) : ∃ u v, mg x = some u ∧ RelV v u ∧ ∀ ρ H, RelP (t.G K w) ρ H d v := by
  unfold globB at c
  cases q : PySem.W.nsIn K mainGlobals x with
  | none =>
    rw [q] at c
    cases c
  | some o =>
    rw [q] at c
    cases o with
    | none => cases c
    | some u =>
      have em := PySem.W.mg_of X G q
      cases d with
      | wd fs =>
        cases u with
        | ref a =>
          obtain ⟨c1, c2⟩ := band c
          have ea := of_decide_eq_true c1
          refine ⟨_, .ref a, em, rfl, wdB_ok c2 ?_⟩
          rw [← ea]
          exact kd fs rfl
        | _ => cases c
      | _ =>
        obtain ⟨v, v1, v2⟩ := valB_ok (w := w) c
        exact ⟨u, v, em, v1, v2⟩
/-! ### all that is asked of the written part -/
theorem look_mem {α β : Type} [BEq α] [LawfulBEq α] {a : α} {b : β} : ∀ {l : List (α × β)}, l.lookup a = some b → (a, b) ∈ l
  | [], h => by cases h
  | (x, y) :: r, h => by
    by_cases q : a = x
    · subst q
      simp only [List.lookup, beq_self_eq_true, Option.some.injEq] at h
      rw [h]
      exact List.mem_cons_self
    · have b : (a == x) = false := by simpa using q
      simp only [List.lookup, b] at h
      exact List.mem_cons_of_mem _ (look_mem h)
theorem all_of {α : Type} {l : List α} {p : α → Bool} {a : α} (h : l.all p = true) (m : a ∈ l) : p a = true := List.all_eq_true.mp h a m
/-- a def's data, for all -/
def AllD (φ : Str → Fn → Prop) : List (Str × Fn) → Prop
  | [] => True
  | p :: r => φ p.1 p.2 ∧ AllD φ r
theorem AllD.at {φ : Str → Fn → Prop} {f : Str} {F : Fn} : ∀ {l : List (Str × Fn)}, AllD φ l → l.lookup f = some F → φ f F
  | [], _, h => by cases h
  | (x, y) :: r, ⟨h1, h2⟩, h => by
    by_cases q : f = x
    · subst q
      simp only [List.lookup, beq_self_eq_true, Option.some.injEq] at h
      rw [← h]
      exact h1
    · have b : (f == x) = false := by simpa using q
      simp only [List.lookup, b] at h
      exact h2.at h
def AllB (φ : List D → Prop) : List (List D) → Prop
  | [] => True
  | p :: r => φ p ∧ AllB φ r
theorem AllB.at {φ : List D → Prop} {ds : List D} : ∀ {l : List (List D)}, AllB φ l → l.any (fun d => D.deqs d ds) = true → φ ds
  | [], _, h => by cases h
  | x :: r, ⟨h1, h2⟩, h => by
    rw [List.any_cons, Bool.or_eq_true] at h
    rcases h with h | h
    · rw [← deqs_eq h]
      exact h1
    · exact h2.at h
/-- what is bound where these lack -/
def BindD (G : Cfg) (K : PySem.W.Frag) (fd : FuncData) (ps : List Str) (ds : List D) : Prop := ∃ us dvs, Binds K fd ps us ∧ Vals dvs us ∧ ∀ ρ H, RelPs G ρ H ds dvs
theorem DefF.of {pr : Program} {w : World} {K : PySem.W.Frag} {G : Cfg} {P : Prg} {t : Tbl} {T : Tab} {f : Str} {F : Fn} {x qual : Str} {st : Stmt} {N ps : List Str} {dvs : List V} {kws : List (Str × V)} {fd : FuncData} {a : Addr} {ms : List (List D)} (ha : G.fA f = a) (D : FunD K x qual (defArgs st) (defBody st) (defScope st) dvs kws a fd) (S : FnScope N ps (defScope st)) (hnp : F.np = ps.length) (hn : F.n = N.length)
    (ok : okSs ⟨N, defScope st, fun _ => true, T, true, none⟩ F.body (defBody st) = true) (hT : T.miss = t.missB) (hm : t.miss.lookup f = some ms) (hb : AllB (BindD G K fd ps) ms) : DefF pr w K G P T f F := by
  subst ha
  obtain ⟨oc, od, dV, kV, doc, pm, an, cdv, ct, osl, rfl, lk, hcd, _, _⟩ := D.ex
  refine ⟨⟨x, qual, st, N, ps, oc, dV, kV, doc, pm, cdv, ct, od, an, osl, lk, hcd, S, hnp, hn, ok, fun ds h => ?_⟩, D.kp⟩
  rw [hT] at h
  unfold Tbl.missB at h
  rw [hm] at h
  exact hb.at h
section
variable {pr : Program} {w : World} {K : PySem.W.Frag} {mg : Str → Option Value} {base h : Heap} {t : Tbl} {T : Tab}
/-- what is raised -/
def ExsF (pr : Program) (w : World) (K : PySem.W.Frag) (mg : Str → Option Value) (base : Heap) (t : Tbl) (C : Str) : Prop := ∃ w' fs, t.exs.lookup C = some (w', fs) ∧ ∀ (Y : Cx), Y.prog = pr → Y.w = w → Y.K = K → Y.mg = mg → Y.base = base → Room 3 Y.A → Gl Y C → ∀ (es : List PySem.Expr) (ta : TA) (p pos : Pos), PA Y es ta → plainAllB es = true → (es = [] → ∀ σ H Q, ta σ H Q → Q [] H) →
    PMk Y (.Call (.Name C p) es [] pos) (fun σ H Q => ta σ H fun vs H1 => vs.length = fs.length ∧ ∀ d, H1 d = none → Q (.ref (He.ga K C)) (some d) (upd H1 d (.xd (mkFs (V.str w') fs vs))))
def AllX (φ : Str → Prop) : List Str → Prop
  | [] => True
  | p :: r => φ p ∧ AllX φ r
theorem AllX.at {φ : Str → Prop} {f : Str} : ∀ {l : List Str}, AllX φ l → l.contains f = true → φ f
  | [], _, h => by cases h
  | x :: r, ⟨h1, h2⟩, h => by
    rw [List.contains_cons, Bool.or_eq_true] at h
    rcases h with h | h
    · have := eq_of_beq h
      rw [this]
      exact h1
    · exact h2.at h
theorem con_mem {α : Type} [BEq α] [LawfulBEq α] {a : α} {l : List α} (h : l.contains a = true) : a ∈ l := by
  simpa using h
/-- THE FACTS -/
theorem facts_of (X : K.In h) (G : h.Ns mainGlobals mg) (c : chk t T K = true) (kd : ∀ x fs, t.globs.lookup x = some (.wd fs) → ∃ es n, KDict K w (He.ga K x) es n) (hv : (t.vals.all fun f => (t.fns.lookup f).isSome && T.miss f []) = true) (hd : AllD (DefF pr w K (t.G K w) t.P T) t.fns) (hx : AllX (ExsF pr w K mg base t) T.exs) : Facts pr w K mg base (t.G K w) t.P T := by
  obtain ⟨c, c9⟩ := band c
  obtain ⟨c, c8⟩ := band c
  obtain ⟨c, c7⟩ := band c
  obtain ⟨c, c6⟩ := band c
  obtain ⟨c, c5⟩ := band c
  obtain ⟨c, c4⟩ := band c
  obtain ⟨c, c3⟩ := band c
  obtain ⟨c1, c2⟩ := band c
  refine ⟨rfl, rfl, fun f F e => hd.at e, fun x d e => ?_, fun x e => ?_, fun C f e => ?_, fun f e => ?_, fun f e => ?_, fun C m e => ?_, fun C e => ?_, fun d e => ?_, fun c d b e _ => ?_, fun C f e => ?_, fun C e => hx.at e⟩
  · have q := all_of c1 (look_mem (show t.globs.lookup x = some d from e))
    exact globB_ok X G q fun fs q => kd x fs (by rw [← q]; exact e)
  · have q := all_of c2 (con_mem e)
    exact He.free_ok X G q
  · have q := all_of c3 (con_mem (show t.flds.contains (C, f) = true from e))
    obtain ⟨k1, k2⟩ := band q
    exact ⟨He.cls_ok k1, He.noat_ok k2⟩
  · have q := all_of c4 (con_mem e)
    obtain ⟨k1, k2⟩ := band q
    obtain ⟨k3, k4⟩ := band k2
    refine ⟨k1, ?_⟩
    have e4 : t.fA K f = He.ga K f := of_decide_eq_true k4
    show mg f = some (.ref (t.fA K f))
    rw [e4]
    exact He.glo_ok X G k3
  · have q := all_of hv (con_mem (show t.vals.contains f = true from e))
    obtain ⟨k1, k2⟩ := band q
    exact ⟨k1, k2⟩
  · have q := all_of c5 (con_mem e)
    obtain ⟨k1, k2⟩ := band q
    obtain ⟨k3, k4⟩ := band k2
    obtain ⟨k5, k6⟩ := band k4
    refine ⟨k1, He.cls_ok k3, ?_⟩
    have e4 : t.fA K (C ++ "." ++ m) = He.ma K (He.ga K C) m := of_decide_eq_true k6
    show Meth K (He.ga K C) m (t.fA K (C ++ "." ++ m))
    rw [e4]
    exact He.meth_ok k5
  · have q := all_of c6 (con_mem e)
    obtain ⟨k1, k2⟩ := band q
    obtain ⟨k3, k4⟩ := band k2
    obtain ⟨k5, k6⟩ := band k4
    have e4 : t.fA K (C ++ ".__init__") = He.ma K (He.ga K C) "__init__" := of_decide_eq_true k6
    refine ⟨k1, ?_, He.glo_ok X G k5⟩
    show Mk K (He.ga K C) (t.fA K (C ++ ".__init__"))
    rw [e4]
    exact He.mkr_ok k3
  · have q := all_of c7 (con_mem e)
    exact He.glo_ok X G q
  · have q := all_of c8 (look_mem (show t.subs.lookup (c, d) = some b from e))
    exact He.exm_ok q
  · have q := all_of c9 (con_mem (show t.xf.contains (C, f) = true from e))
    obtain ⟨k1, k2⟩ := band q
    exact ⟨xfB_ok k1, He.noat_ok k2⟩
/-! ### exceptions -/
theorem pa_wide {X : Cx} {es : List PySem.Expr} {t : TA} (h : PA X es t) : PA X es (fun σ H Q => ∃ Q0, t σ H Q0 ∧ ∀ vs H1, Q0 vs H1 → Q vs H1) := ⟨fun pos pins s σ H Q I ⟨Q0, h0, k⟩ => thn (h.run pos pins s σ H Q0 I h0) fun us s1 ⟨vs, H1, I1, r, q⟩ => ⟨vs, H1, I1, r, k _ _ q⟩⟩
theorem exs_of {C B wd : Str} {fs : List Str} {tail : List Value} {newId initId Bt : String} {x qual x2 qual2 : Str} {st st2 : Stmt} {fd fd2 : FuncData} (bx : BaseX tail) (bf : ExcBaseFacts Bt newId initId tail) (X : K.In h) (G : h.Ns mainGlobals mg) (c : exB K C B fs tail newId = true)
    (D : FunD K x qual (defArgs st) (defBody st) (defScope st) [] [] (He.ma K (He.ga K C) "__init__") fd) (S : FnScope ("self" :: fs) ("self" :: fs) (defScope st)) (ok : okXI B wd fs (defBody st) = true) (hfs : fs.length ≤ 800) (hdun : fs.all (fun f => !(f == ("__debug__" : Str)) && !(f == ("__classdict__" : Str))) = true)
    (D2 : FunD K x2 qual2 (defArgs st2) (defBody st2) (defScope st2) [] [] (He.ma K (He.ga K B) "__init__") fd2) (S2 : FnScope ["self", "word"] ["self", "word"] (defScope st2)) (ok2 : okXs ["word"] (defBody st2) = true) (b1 : Binds K fd ("self" :: fs) []) (b2 : Binds K fd2 ["self", "word"] []) (hg : gloB (defScope st) B = true) (hdb : (B == ("__debug__" : Str)) = false) (hdc : (C == ("__debug__" : Str)) = false)
    (he : t.exs.lookup C = some (wd, fs)) : ExsF pr w K mg base t C := by
  obtain ⟨c1, c⟩ := band c
  obtain ⟨c2, c⟩ := band c
  obtain ⟨c3, c⟩ := band c
  obtain ⟨c4, c⟩ := band c
  obtain ⟨c5, c⟩ := band c
  obtain ⟨c6, c⟩ := band c
  obtain ⟨c7, c⟩ := band c
  obtain ⟨c8, c⟩ := band c
  obtain ⟨c9, c10⟩ := band c
  have cv : PySem.W.findCls K (.ref (He.ga K B)) (.type "type") "__init__" = some (.val (.ref (He.ma K (He.ga K B) "__init__"))) := by
    split at c9
    · rename_i a q
      rw [q, of_decide_eq_true c9]
    · cases c9
  have no : ∀ f ∈ ("word" : Str) :: fs, PySem.W.findIn K (.ref (He.ga K C)) f = some none := fun f hf => by
    have q := all_of c2 hf
    exact of_decide_eq_true q
  have dx : DefX K (He.ma K (He.ga K C) "__init__") x qual st fd := by
    obtain ⟨oc, od, dV, kV, doc, pm, an, cdv, ct, osl, e, lk, hcd, _, _⟩ := D.ex
    exact ⟨oc, dV, kV, doc, pm, cdv, ct, od, an, osl, e, lk, hcd⟩
  have dx2 : DefX K (He.ma K (He.ga K B) "__init__") x2 qual2 st2 fd2 := by
    obtain ⟨oc, od, dV, kV, doc, pm, an, cdv, ct, osl, e, lk, hcd, _, _⟩ := D2.ex
    exact ⟨oc, dV, kV, doc, pm, cdv, ct, od, an, osl, e, lk, hcd⟩
  have F2 := fn_word (pr := pr) (wl := w) (mg := mg) (base := base) (newId := newId) bx dx2 S2 ok2
  have F1 := fn_derived (pr := pr) (wl := w) (mg := mg) (base := base) (newId := newId) (w := wd) (st2 := st2) (x2 := x2) (qual2 := qual2) bx dx S ok hfs hdun F2 b2 hg (He.glo_ok X G c6) ⟨c7, of_decide_eq_true c8⟩ ⟨cv, rfl⟩ c10 hdb
  refine ⟨wd, fs, he, fun Y e1 e2 e3 e4 e5 hr hgl es ta p pos ha hp hn => ?_⟩
  subst e1
  subst e2
  subst e3
  subst e4
  subst e5
  have pm := pmk_G (p := p) (pos := pos) bf (oexB_ok c1) no (of_decide_eq_true c3) (of_decide_eq_true c4) F1 hr b1 hgl (He.glo_ok X G c5) (pa_wide ha) hp (fun e σ H Q ⟨Q0, h0, k⟩ => k _ _ (hn e σ H Q0 h0)) hdc
  intro pins s σ H Q I q
  exact pm pins s σ H Q I ⟨_, q, fun vs H1 ⟨hl, k⟩ => ⟨by omega, mkFs (V.str wd) fs vs, by unfold finD; rw [if_pos hl], k⟩⟩
end
/-! ### the law's own def -/
/-- what a def may let out, whatever the world -/
def CXU : CXT := fun _ _ _ E _ _ => ∃ cls d H', E cls d H'
theorem FnOk.un {P : Program} {w : World} {K : PySem.W.Frag} {mg : Str → Option Value} {base : Heap} {k : Nat} {f : Addr} {fd : FuncData} {ps : List Str} {sp : Sp} (F : FnOk P w K mg base (L2.CX P w) k f fd ps sp) : FnOk P w K mg base CXU k f fd ps sp :=
  ⟨F.len, fun A outer s H args us vs Q E hr he hb hv hs => codeAny_mono (F.run A outer s H args us vs Q E hr he hb hv hs) fun r s' h => by
    cases r with
    | error e =>
      obtain ⟨a, B, H', cls, d, _, _, _, _, _, _, _, z⟩ := h
      exact ⟨cls, d, H', z⟩
    | ok fl => cases fl <;> exact h⟩
theorem scr_rel {G : Cfg} {H : Hp} {a : Addr} {ns : List Int} (h : SqL G.K H a (ns.map V.int)) : RelP G ⟨[], []⟩ H (.scr ns) (.ref a) := by
  refine ⟨a, rfl, ?_⟩
  rcases h with h | h
  · refine .inl ⟨fun q => ?_, h⟩
    rcases q with q | q
    · cases q
    · cases q
  · exact .inr (.inr h)
theorem rel_nil {G : Cfg} {H : Hp} : Rel G ⟨[], []⟩ H [] := ⟨rfl, List.nodup_nil, fun a ha => (nomatch ha), fun l o a e => (by simp at e)⟩
/-- the law gives True -/
theorem law_sp {G : Cfg} {P : Prg} {k : Nat} {f : Str} {H : Hp} {a : Addr} {ns : List Int} (hS : SqL G.K H a (ns.map V.int)) (h : ∃ st, callF P k f [.scr ns] [] = some (.ok (.bl true), st)) : spI G P k f [.ref a] H (fun v _ => v = .bl true) fun _ _ _ => False := by
  obtain ⟨st, e⟩ := h
  exact ⟨⟨[], []⟩, [], [.scr ns], .ok (.bl true), st, rel_nil, ⟨.ref a, [], rfl, scr_rel hS, rfl⟩, e, fun ρ' H' v s r q => q⟩
/-- every parameter is written -/
theorem FunD.bindsF {K : PySem.W.Frag} {x qual : Str} {params : Arguments} {body : List Stmt} {scope : Scope} {dvs : List V} {kws : List (Str × V)} {f : Addr} {fd : FuncData} {ps : List Str} (F : FunD K x qual params body scope dvs kws f fd)
    (h : ∀ (dV kV doc pm : Value) (an : Option Addr) (cdv ct : Value) (us : List Value), us.length = ps.length → bindArgs (PySem.W.fnOf x qual params body scope dV kV doc pm an cdv ct) ⟨us, []⟩ = pure (ps.zip us)) : Binds K fd ps [] := by
  obtain ⟨oc, od, dV, kV, doc, pm, an, cdv, ct, osl, rfl, lk, hcd, hD, hK⟩ := F.ex
  exact .all (h dV kV doc pm an cdv ct)
/-- the law's def itself -/
theorem law_un {pr : Program} {w : World} {K : PySem.W.Frag} {mg : Str → Option Value} {base : Heap} {G : Cfg} {P : Prg} {T : Tab} {k : Nat} {f x qual : Str} {F : Fn} {st : Stmt} {N ps : List Str} {dvs : List V} {kws : List (Str × V)} {fd : FuncData} {a b : Addr} (fc : Facts pr w K mg base G P T) (ha : G.fA f = a) (e : a = b) (hF : P.fn f = some F) (D : FunD K x qual (defArgs st) (defBody st) (defScope st) dvs kws a fd) (S : FnScope N ps (defScope st)) (hnp : F.np = ps.length) (hn : F.n = N.length)
    (ok : okSs ⟨N, defScope st, fun _ => true, T, true, none⟩ F.body (defBody st) = true) : FnOk pr w K mg base CXU (2 * (k + 1) + 2) b fd ps (spI G P (k + 1) f) := by
  subst e
  subst ha
  obtain ⟨oc, od, dV, kV, doc, pm, an, cdv, ct, osl, rfl, lk, hcd, _, _⟩ := D.ex
  exact FnOk.un (fn_one fc.hK fc.hw hF lk hcd S hnp hn ok fun X h1 h2 h3 h4 h5 => fc.fx k (fc.all k) X h1 h2 h3 h4 h5)
theorem DefF.of0 {pr : Program} {w : World} {K : PySem.W.Frag} {G : Cfg} {P : Prg} {t : Tbl} {T : Tab} {f : Str} {F : Fn} {x qual : Str} {st : Stmt} {N ps : List Str} {dvs : List V} {kws : List (Str × V)} {fd : FuncData} {a : Addr} (ha : G.fA f = a) (D : FunD K x qual (defArgs st) (defBody st) (defScope st) dvs kws a fd) (S : FnScope N ps (defScope st)) (hnp : F.np = ps.length) (hn : F.n = N.length)
    (ok : okSs ⟨N, defScope st, fun _ => true, T, true, none⟩ F.body (defBody st) = true) (hT : T.miss = t.missB) (hm : t.miss.lookup f = none) : DefF pr w K G P T f F := by
  subst ha
  obtain ⟨oc, od, dV, kV, doc, pm, an, cdv, ct, osl, rfl, lk, hcd, _, _⟩ := D.ex
  refine ⟨⟨x, qual, st, N, ps, oc, dV, kV, doc, pm, cdv, ct, od, an, osl, lk, hcd, S, hnp, hn, ok, fun ds h => ?_⟩, D.kp⟩
  rw [hT] at h
  unfold Tbl.missB at h
  rw [hm] at h
  cases h
end Mp
end
section
set_option Elab.async false
set_option linter.all false
set_option maxRecDepth 100000
set_option maxHeartbeats 1000000
/-! Mp: what is left to be shown of a run. -/
namespace Mp
open PySem L2
def wr {α : Type} (Q : α → Sto → Prop) (E : Ex → Sto → Prop) : R α → Sto → Prop
  | .ok a, s => Q a s
  | .ex x, s => E x s
def Rn {α : Type} (m : M α) (st : Sto) (Q : α → Sto → Prop) (E : Ex → Sto → Prop) : Prop := ∃ r s, m st = some (r, s) ∧ wr Q E r s
def RnS (m : SM) (st : Sto) (Q : Fl → Sto → Prop) : Prop := ∃ f s, m st = some (f, s) ∧ Q f s
/-- by a truth -/
def wif (t : Bool) (A B : Prop) : Prop := match t with
  | true => A
  | false => B
theorem wif_split {t : Bool} {A B : Prop} (a : t = true → A) (b : t = false → B) : wif t A B := by
  cases t
  · exact b rfl
  · exact a rfl
theorem wif_t {t : Bool} {A B : Prop} (h : t = true) (a : A) : wif t A B := by
  subst h
  exact a
theorem wif_f {t : Bool} {A B : Prop} (h : t = false) (b : B) : wif t A B := by
  subst h
  exact b
section
variable {α β : Type} {st : Sto}
theorem rn_ok {a : α} {Q : α → Sto → Prop} {E : Ex → Sto → Prop} (h : Q a st) : Rn (M.ok a) st Q E := ⟨.ok a, st, rfl, h⟩
theorem rn_lift {o : Option α} {Q : α → Sto → Prop} {E : Ex → Sto → Prop} (h : ∃ a, o = some a ∧ Q a st) : Rn (M.lift o) st Q E := by
  obtain ⟨a, rfl, h⟩ := h
  exact ⟨.ok a, st, rfl, h⟩
theorem rn_onSt {f : Sto → Option α} {Q : α → Sto → Prop} {E : Ex → Sto → Prop} (h : ∃ a, f st = some a ∧ Q a st) : Rn (onSt f) st Q E := by
  obtain ⟨a, e, h⟩ := h
  refine ⟨.ok a, st, ?_, h⟩
  unfold onSt
  rw [e]
theorem rn_onSt2 {f : Sto → Option (α × Sto)} {Q : α → Sto → Prop} {E : Ex → Sto → Prop} (h : ∃ a s, f st = some (a, s) ∧ Q a s) : Rn (onSt2 f) st Q E := by
  obtain ⟨a, s, e, h⟩ := h
  refine ⟨.ok a, s, ?_, h⟩
  unfold onSt2
  rw [e]
theorem rn_bind {m : M α} {f : α → M β} {Q : β → Sto → Prop} {E : Ex → Sto → Prop} (h : Rn m st (fun a s => Rn (f a) s Q E) E) : Rn (m.bind f) st Q E := by
  obtain ⟨r, s, e, h⟩ := h
  cases r with
  | ok a =>
    obtain ⟨r2, s2, e2, h2⟩ := h
    refine ⟨r2, s2, ?_, h2⟩
    unfold M.bind
    rw [e]
    exact e2
  | ex x =>
    refine ⟨.ex x, s, ?_, h⟩
    unfold M.bind
    rw [e]
theorem rn_mono {m : M α} {Q Q' : α → Sto → Prop} {E E' : Ex → Sto → Prop} (h : Rn m st Q E) (q : ∀ a s, Q a s → Q' a s) (e : ∀ x s, E x s → E' x s) : Rn m st Q' E' := by
  obtain ⟨r, s, e1, h⟩ := h
  refine ⟨r, s, e1, ?_⟩
  cases r with
  | ok a => exact q _ _ h
  | ex x => exact e _ _ h
theorem rn_wif {t : Bool} {a b : M α} {Q : α → Sto → Prop} {E : Ex → Sto → Prop} (h : wif t (Rn a st Q E) (Rn b st Q E)) : Rn (match t with
  | true => a
  | false => b) st Q E := by
  cases t <;> exact h
theorem rns_run {m : M α} {env : Env} {f : α → SM} {Q : Fl → Sto → Prop} (h : Rn m st (fun a s => RnS (f a) s Q) (fun x s => Q (.ex x env) s)) : RnS (m.run env f) st Q := by
  obtain ⟨r, s, e, h⟩ := h
  cases r with
  | ok a =>
    obtain ⟨r2, s2, e2, h2⟩ := h
    refine ⟨r2, s2, ?_, h2⟩
    unfold M.run
    rw [e]
    exact e2
  | ex x =>
    refine ⟨.ex x env, s, ?_, h⟩
    unfold M.run
    rw [e]
theorem rns_fl {f : Fl} {Q : Fl → Sto → Prop} (h : Q f st) : RnS (fl f) st Q := ⟨f, st, rfl, h⟩
end
/-- what a comprehension's turn does -/
def lcT (O : Orc) (own : List Nat) (tg : Tg) (cs : List PX) (p : PX) (env : Env) (x : D) : M (Option D) := match put1 tg x (wipeE env own) with
  | none => M.no
  | some env' => (evCs O cs env').bind fun
    | false => M.ok none
    | true => (evE O p env').bind fun d => M.ok (some d)
def dcT (O : Orc) (own : List Nat) (tg : Tg) (cs : List PX) (k p : PX) (env : Env) (x : D) : M (Option (Key × D)) := match put1 tg x (wipeE env own) with
  | none => M.no
  | some env' => (evCs O cs env').bind fun
    | false => M.ok none
    | true => (evE O k env').bind fun y => (evE O p env').bind fun d => M.lift ((keyOf y).map fun k => some (k, d))
def fldD (O : Orc) (st : Sto) (x : D) (f : Str) : Option D := (objOf st x).bind fun o => if O.fld o.1 f = true then getD' f o.2 else none
def mthD (st : Sto) (C m : Str) (x : D) : Option Unit := (objOf st x).bind fun ob => if ob.1 = C ∧ hasD m ob.2 = false then some () else none
def enumS (x : D) (st : Sto) : Option (D × List D) := if unRef x = true then (lstOf st x).map fun xs => (.non, enumD 0 xs) else none
def zipS (x y : D) (st : Sto) : Option (D × List D) := if unRef x = true ∧ unRef y = true then (match x with
      | .tup xs => (match y with
        | .tup ys => some (.non, zipD xs ys)
        | _ => none)
      | x => (lstOf st x).bind fun xs => (lstOf st y).map fun ys => (.non, zipD xs ys)) else none
def revD (st : Sto) (x : D) : Option D := match x with
      | .str z => some (.str ⟨z.cps.reverse⟩)
      | x => (lstOf st x).map fun xs => .lst xs.reverse
def wpOpt (h : Bool) (st : Sto) (w : (D → Sto → Prop) → Prop) (K : Option Int → Sto → Prop) : Prop := match h with
  | true => K none st
  | false => w (fun y s => ∃ i, y = .int i ∧ K (some i) s)
section
variable (O : Orc)
mutual
def wpE : PX → Env → Sto → (D → Sto → Prop) → (Ex → Sto → Prop) → Prop
  | .hole, _, _, _, _ => False
  | .var i, env, st, Q, E => (match env[i]? with
    | some (some d) => Q d st
    | _ => False)
  | .cst d, _, st, Q, E => Q d st
  | .glob x, _, st, Q, E => ∃ d, O.glob x = some d ∧ Q d st
  | .bop o a b, env, st, Q, E => wpE a env st (fun x s => wpE b env s (fun y s => ∃ d, bopD o s x y = some d ∧ Q d s) E) E
  | .cmp o a b, env, st, Q, E => wpE a env st (fun x s => wpE b env s (fun y s => ∃ d, cmpD o s x y = some d ∧ Q (.bl d) s) E) E
  | .chn o p a b c, env, st, Q, E => wpE a env st (fun x s => wpE b env s (fun y s => ∃ t, cmpD o s x y = some t ∧ wif t (wpE c env s (fun z s => ∃ d, cmpD p s y z = some d ∧ Q (.bl d) s) E) (Q (.bl false) s)) E) E
  | .and_ a b, env, st, Q, E => wpE a env st (fun x s => ∃ t, truth s x = some t ∧ wif t (wpE b env s Q E) (Q x s)) E
  | .or_ a b, env, st, Q, E => wpE a env st (fun x s => ∃ t, truth s x = some t ∧ wif t (Q x s) (wpE b env s Q E)) E
  | .not_ a, env, st, Q, E => wpE a env st (fun x s => ∃ t, truth s x = some t ∧ Q (.bl (!t)) s) E
  | .neg a, env, st, Q, E => wpE a env st (fun x s => ∃ d, negD x = some d ∧ Q d s) E
  | .ife c a b, env, st, Q, E => wpE c env st (fun x s => ∃ t, truth s x = some t ∧ wif t (wpE a env s Q E) (wpE b env s Q E)) E
  | .tup es, env, st, Q, E => wpEs es env st (fun xs s => Q (.tup xs) s) E
  | .val f, env, st, Q, E => wpF f env st Q E
  | .loc f, env, st, Q, E => wpF f env st (fun d s => match d with
    | .lst xs => Q (.ref s.length) (s ++ [.lst xs])
    | .dct kvs => Q (.ref s.length) (s ++ [.dk kvs])
    | _ => False) E
  | .frz e, env, st, Q, E => wpE e env st (fun d s => ∃ d' s', freeze st.length d s = some (.ok d', s') ∧ Q d' s') E
  | .item a i, env, st, Q, E => wpE a env st (fun x s => wpE i env s (fun y s => ∃ d, itemD s x y = some d ∧ Q d s) E) E
  | .slc a lo hi, env, st, Q, E => wpE a env st (fun x s => wpOpt (isHole lo) s (fun q => wpE lo env s q E) (fun y s => wpOpt (isHole hi) s (fun q => wpE hi env s q E) fun z s => ∃ d, slcD s x y z = some d ∧ Q d s)) E
  | .rev a, env, st, Q, E => wpE a env st (fun x s => ∃ d, revD s x = some d ∧ Q d s) E
  | .fld a f, env, st, Q, E => wpE a env st (fun x s => ∃ d, fldD O s x f = some d ∧ Q d s) E
  | .call f es ds, env, st, Q, E => wpEs es env st (fun xs s => ∃ r s', O.call f (xs ++ ds) s = some (r, s') ∧ wr Q E r s') E
  | .meth C o m es ds, env, st, Q, E => wpE o env st (fun x s => mthD s C m x = some () ∧ wpEs es env s (fun xs s => ∃ r s', O.call (C ++ "." ++ m) (x :: (xs ++ ds)) s = some (r, s') ∧ wr Q E r s') E) E
  | .make C es ds, env, st, Q, E => wpEs es env st (fun xs s => ∃ r s', O.call (C ++ ".__init__") (.ref s.length :: (xs ++ ds)) (s ++ [.ins C []]) = some (r, s') ∧ wr (fun d s2 => isNon d = true ∧ Q (.ref s.length) s2) E r s') E
  | .callv i es, env, st, Q, E => (match env[i]? with
    | some (some (.fn f)) => O.vals.contains f = true ∧ wpEs es env st (fun xs s => ∃ r s', O.call f xs s = some (r, s') ∧ wr Q E r s') E
    | _ => False)
  | .blt b e, env, st, Q, E => wpE e env st (fun x s => ∃ d, bltD b s x = some d ∧ Q d s) E
  | .isi e ts, env, st, Q, E => wpE e env st (fun x s => ∃ t, tyOf s x = some t ∧ Q (.bl (ts.any fun c => t.sub c)) s) E
  | .bm0 m o, env, st, Q, E => wpE o env st (fun x s => ∃ d s', bm0D m x s = some (d, s') ∧ Q d s') E
  | .bm1 m o e, env, st, Q, E => wpE o env st (fun x s => bm1K m s x = true ∧ wpE e env s (fun y s => ∃ d s', bm1D m x y s = some (d, s') ∧ Q d s') E) E
  | .fmt es, env, st, Q, E => wpFm es env Str.empty st (fun z s => Q (.str z) s) E
  | .errf _ f, _, st, Q, E => ∃ d, (O.exc.bind fun x => if O.xfld x.cls f = true then getD' f x.fs else none) = some d ∧ Q d st
def wpEs : List PX → Env → Sto → (List D → Sto → Prop) → (Ex → Sto → Prop) → Prop
  | [], _, st, Q, E => Q [] st
  | e :: es, env, st, Q, E => wpE e env st (fun x s => wpEs es env s (fun xs s => Q (x :: xs) s) E) E
def wpFm : List PX → Env → Str → Sto → (Str → Sto → Prop) → (Ex → Sto → Prop) → Prop
  | [], _, acc, st, Q, E => Q acc st
  | e :: es, env, acc, st, Q, E => wpE e env st (fun x s => ∃ y, fmtD x = some y ∧ acc.length + y.length ≤ 16777216 ∧ wpFm es env (acc ++ y) s Q E) E
def wpCs : List PX → Env → Sto → (Bool → Sto → Prop) → (Ex → Sto → Prop) → Prop
  | [], _, st, Q, E => Q true st
  | e :: es, env, st, Q, E => wpE e env st (fun x s => ∃ t, truth s x = some t ∧ wif t (wpCs es env s Q E) (Q false s)) E
def wpF : PF → Env → Sto → (D → Sto → Prop) → (Ex → Sto → Prop) → Prop
  | .lst es, env, st, Q, E => wpEs es env st (fun xs s => Q (.lst xs) s) E
  | .dsp ks es, env, st, Q, E => wpEs es env st (fun xs s => ks.length = xs.length ∧ ks.length ≤ 15 ∧ Q (.dct ((ks.zip xs).foldl (fun l p => setD p.1 p.2 l) [])) s) E
  | .list e, env, st, Q, E => wpE e env st (fun x s => ∃ d, listR s x = some d ∧ Q d s) E
  | .srt e, env, st, Q, E => wpE e env st (fun x s => ∃ d, srtD s x = some d ∧ Q d s) E
  | .dict e, env, st, Q, E => wpE e env st (fun x s => ∃ d, dctOf s x = some d ∧ Q (.dct d) s) E
  | .lc own src tg cs e, env, st, Q, E => wpI src env st (fun d xs s => ∃ ys s', lcGo (heldD d xs) (lcT O own tg cs e env) xs [] s = some (.ok ys, s') ∧ Q (.lst ys) s') E
  | .dc own src tg cs k e, env, st, Q, E => wpI src env st (fun d xs s => ∃ ys s', dcGo (heldD d xs) (dcT O own tg cs k e env) xs [] s = some (.ok ys, s') ∧ Q (.dct ys) s') E
def wpI : PSrc → Env → Sto → (D → List D → Sto → Prop) → (Ex → Sto → Prop) → Prop
  | .val e, env, st, Q, E => wpE e env st (fun x s => ∃ xs, itemsOf s x = some xs ∧ Q x xs s) E
  | .items e, env, st, Q, E => wpE e env st (fun x s => ∃ p, itemsD x = some p ∧ Q p.1 p.2 s) E
  | .enum e, env, st, Q, E => wpE e env st (fun x s => ∃ p, enumS x s = some p ∧ Q p.1 p.2 s) E
  | .zip a b, env, st, Q, E => wpE a env st (fun x s => wpE b env s (fun y s => ∃ p, zipS x y s = some p ∧ Q p.1 p.2 s) E) E
  | .rng es, env, st, Q, E => wpEs es env st (fun xs s => ∃ ys, rngD xs = some ys ∧ Q .non ys s) E
end
end
section
variable {O : Orc}
theorem calm_eq {α : Type} {m : M α} {st s : Sto} {a : α} (h : m st = some (.ok a, s)) : M.calm m st = some (.ok a, s) := by
  unfold M.calm
  rw [h]
theorem rn_wr {m : M D} {st : Sto} {Q : D → Sto → Prop} {E : Ex → Sto → Prop} (h : ∃ r s', m st = some (r, s') ∧ wr Q E r s') : Rn m st Q E := h
mutual
theorem wpE_ok : ∀ (p : PX) {env : Env} {st : Sto} {Q : D → Sto → Prop} {E : Ex → Sto → Prop}, wpE O p env st Q E → Rn (evE O p env) st Q E
  | .hole, env, st, Q, E, h => h.elim
  | .var i, env, st, Q, E, h => by
    have h : (match env[i]? with
      | some (some d) => Q d st
      | _ => False) := h
    show Rn (match env[i]? with
      | some (some d) => M.ok d
      | _ => M.no) st Q E
    split at h
    · exact rn_ok h
    · exact h.elim
  | .cst d, env, st, Q, E, h => rn_ok h
  | .glob x, env, st, Q, E, h => rn_lift h
  | .bop o a b, env, st, Q, E, h => rn_bind (rn_mono (wpE_ok a h) (fun x s h => rn_bind (rn_mono (wpE_ok b h) (fun y s h => rn_onSt h) fun _ _ z => z)) fun _ _ z => z)
  | .cmp o a b, env, st, Q, E, h => rn_bind (rn_mono (wpE_ok a h) (fun x s h => rn_bind (rn_mono (wpE_ok b h) (fun y s ⟨d, e, h⟩ => rn_onSt ⟨_, by rw [e]; rfl, h⟩) fun _ _ z => z)) fun _ _ z => z)
  | .chn o p a b c, env, st, Q, E, h => rn_bind (rn_mono (wpE_ok a h) (fun x s h => rn_bind (rn_mono (wpE_ok b h) (fun y s ⟨t, e, h⟩ => rn_bind (rn_onSt ⟨t, e, by
      cases t with
      | true => exact rn_bind (rn_mono (wpE_ok c h) (fun z s ⟨d, e, h⟩ => rn_onSt ⟨_, by rw [e]; rfl, h⟩) fun _ _ z => z)
      | false => exact rn_ok h⟩)) fun _ _ z => z)) fun _ _ z => z)
  | .and_ a b, env, st, Q, E, h => rn_bind (rn_mono (wpE_ok a h) (fun x s ⟨t, e, h⟩ => rn_bind (rn_onSt ⟨t, e, by
      cases t with
      | true => exact wpE_ok b h
      | false => exact rn_ok h⟩)) fun _ _ z => z)
  | .or_ a b, env, st, Q, E, h => rn_bind (rn_mono (wpE_ok a h) (fun x s ⟨t, e, h⟩ => rn_bind (rn_onSt ⟨t, e, by
      cases t with
      | true => exact rn_ok h
      | false => exact wpE_ok b h⟩)) fun _ _ z => z)
  | .not_ a, env, st, Q, E, h => rn_bind (rn_mono (wpE_ok a h) (fun x s ⟨t, e, h⟩ => rn_onSt ⟨_, by rw [e]; rfl, h⟩) fun _ _ z => z)
  | .neg a, env, st, Q, E, h => rn_bind (rn_mono (wpE_ok a h) (fun x s h => rn_onSt h) fun _ _ z => z)
  | .ife c a b, env, st, Q, E, h => rn_bind (rn_mono (wpE_ok c h) (fun x s ⟨t, e, h⟩ => rn_bind (rn_onSt ⟨t, e, by
      cases t with
      | true => exact wpE_ok a h
      | false => exact wpE_ok b h⟩)) fun _ _ z => z)
  | .tup es, env, st, Q, E, h => rn_bind (rn_mono (wpEs_ok es h) (fun x s h => rn_ok h) fun _ _ z => z)
  | .val f, env, st, Q, E, h => wpF_ok f h
  | .loc f, env, st, Q, E, h => rn_bind (rn_mono (wpF_ok f h) (fun d s h => by
      cases d with
      | lst xs => exact ⟨.ok _, _, rfl, h⟩
      | dct xs => exact ⟨.ok _, _, rfl, h⟩
      | _ => exact h.elim) fun _ _ z => z)
  | .frz e, env, st, Q, E, h => by
    show Rn ((evE O e env).bind (freeze st.length)) st Q E
    exact rn_bind (rn_mono (wpE_ok e h) (fun d s ⟨d', s', e, h⟩ => ⟨.ok d', s', e, h⟩) fun _ _ z => z)
  | .item a i, env, st, Q, E, h => rn_bind (rn_mono (wpE_ok a h) (fun x s h => rn_bind (rn_mono (wpE_ok i h) (fun y s h => rn_onSt h) fun _ _ z => z)) fun _ _ z => z)
  | .slc a lo hi, env, st, Q, E, h => rn_bind (rn_mono (wpE_ok a h) (fun x s h => rn_bind (rn_mono (wpO_ok (fun {env st Q E} h => wpE_ok lo h) h) (fun y s h => rn_bind (rn_mono (wpO_ok (fun {env st Q E} h => wpE_ok hi h) h) (fun z s h => rn_onSt h) fun _ _ z => z)) fun _ _ z => z)) fun _ _ z => z)
  | .rev a, env, st, Q, E, h => rn_bind (rn_mono (wpE_ok a h) (fun x s h => rn_onSt h) fun _ _ z => z)
  | .fld a f, env, st, Q, E, h => rn_bind (rn_mono (wpE_ok a h) (fun x s h => rn_onSt h) fun _ _ z => z)
  | .call f es ds, env, st, Q, E, h => rn_bind (rn_mono (wpEs_ok es h) (fun x s h => rn_wr h) fun _ _ z => z)
  | .meth C o m es ds, env, st, Q, E, h => rn_bind (rn_mono (wpE_ok o h) (fun x s ⟨e, h⟩ => rn_bind (rn_onSt ⟨(), e, rn_bind (rn_mono (wpEs_ok es h) (fun x s h => rn_wr h) fun _ _ z => z)⟩)) fun _ _ z => z)
  | .make C es ds, env, st, Q, E, h => rn_bind (rn_mono (wpEs_ok es h) (fun xs s ⟨r, s', e, h⟩ => by
      have q : Rn ((O.call (C ++ ".__init__") (.ref s.length :: (xs ++ ds))).bind fun r => if isNon r = true then M.ok (.ref s.length) else M.no) (s ++ [.ins C []]) Q E := by
        refine rn_bind ⟨r, s', e, ?_⟩
        cases r with
        | ok d =>
          obtain ⟨h1, h2⟩ := h
          show Rn (if isNon d = true then M.ok (.ref s.length) else M.no) s' Q E
          rw [if_pos h1]
          exact rn_ok h2
        | ex x => exact h
      exact q) fun _ _ z => z)
  | .callv i es, env, st, Q, E, h => by
    have h : (match env[i]? with
      | some (some (.fn f)) => O.vals.contains f = true ∧ wpEs O es env st (fun xs s => ∃ r s', O.call f xs s = some (r, s') ∧ wr Q E r s') E
      | _ => False) := h
    show Rn (match env[i]? with
      | some (some (.fn f)) => if O.vals.contains f = true then (evEs O es env).bind fun xs => O.call f xs else M.no
      | _ => M.no) st Q E
    split at h
    · obtain ⟨h1, h2⟩ := h
      rw [if_pos h1]
      exact rn_bind (rn_mono (wpEs_ok es h2) (fun x s h => rn_wr h) fun _ _ z => z)
    · exact h.elim
  | .blt b e, env, st, Q, E, h => rn_bind (rn_mono (wpE_ok e h) (fun x s h => rn_onSt h) fun _ _ z => z)
  | .isi e ts, env, st, Q, E, h => rn_bind (rn_mono (wpE_ok e h) (fun x s ⟨t, e, h⟩ => rn_onSt ⟨_, by rw [e]; rfl, h⟩) fun _ _ z => z)
  | .bm0 m o, env, st, Q, E, h => rn_bind (rn_mono (wpE_ok o h) (fun x s h => rn_onSt2 h) fun _ _ z => z)
  | .bm1 m o e, env, st, Q, E, h => rn_bind (rn_mono (wpE_ok o h) (fun x s ⟨k, h⟩ => rn_bind (rn_onSt ⟨(), by rw [if_pos k], rn_bind (rn_mono (wpE_ok e h) (fun x s h => rn_onSt2 h) fun _ _ z => z)⟩)) fun _ _ z => z)
  | .fmt es, env, st, Q, E, h => rn_bind (rn_mono (wpFm_ok es h) (fun x s h => rn_ok h) fun _ _ z => z)
  | .errf _ f, env, st, Q, E, h => rn_lift h
theorem wpEs_ok : ∀ (ps : List PX) {env : Env} {st : Sto} {Q : List D → Sto → Prop} {E : Ex → Sto → Prop}, wpEs O ps env st Q E → Rn (evEs O ps env) st Q E
  | [], env, st, Q, E, h => rn_ok h
  | e :: es, env, st, Q, E, h => rn_bind (rn_mono (wpE_ok e h) (fun x s h => rn_bind (rn_mono (wpEs_ok es h) (fun y s h => rn_ok h) fun _ _ z => z)) fun _ _ z => z)
theorem wpFm_ok : ∀ (ps : List PX) {env : Env} {acc : Str} {st : Sto} {Q : Str → Sto → Prop} {E : Ex → Sto → Prop}, wpFm O ps env acc st Q E → Rn (evFm O ps env acc) st Q E
  | [], env, acc, st, Q, E, h => rn_ok h
  | e :: es, env, acc, st, Q, E, h => rn_bind (rn_mono (wpE_ok e h) (fun x s ⟨y, e1, hz, h⟩ => rn_bind (rn_lift ⟨y, e1, by
      rw [if_pos hz]
      exact wpFm_ok es h⟩)) fun _ _ z => z)
theorem wpCs_ok : ∀ (ps : List PX) {env : Env} {st : Sto} {Q : Bool → Sto → Prop} {E : Ex → Sto → Prop}, wpCs O ps env st Q E → Rn (evCs O ps env) st Q E
  | [], env, st, Q, E, h => rn_ok h
  | e :: es, env, st, Q, E, h => rn_bind (rn_mono (wpE_ok e h) (fun x s ⟨t, e, h⟩ => rn_bind (rn_onSt ⟨t, e, by
      cases t with
      | true => exact wpCs_ok es h
      | false => exact rn_ok h⟩)) fun _ _ z => z)
theorem wpO_ok {p : PX} (he : ∀ {env : Env} {st : Sto} {Q : D → Sto → Prop} {E : Ex → Sto → Prop}, wpE O p env st Q E → Rn (evE O p env) st Q E) {env : Env} {st : Sto} {Q : Option Int → Sto → Prop} {E : Ex → Sto → Prop} (h : wpOpt (isHole p) st (fun q => wpE O p env st q E) Q) : Rn (if isHole p = true then M.ok none else (evE O p env).bind asInt) st Q E := by
  cases q : isHole p with
  | true =>
    rw [q] at h
    rw [if_pos rfl]
    exact rn_ok h
  | false =>
    rw [q] at h
    rw [if_neg Bool.false_ne_true]
    exact rn_bind (rn_mono (he h) (fun y s ⟨i, e, h⟩ => by
      subst e
      exact rn_ok h) fun _ _ z => z)
theorem wpF_ok : ∀ (f : PF) {env : Env} {st : Sto} {Q : D → Sto → Prop} {E : Ex → Sto → Prop}, wpF O f env st Q E → Rn (evF O f env) st Q E
  | .lst es, env, st, Q, E, h => rn_bind (rn_mono (wpEs_ok es h) (fun x s h => rn_ok h) fun _ _ z => z)
  | .dsp ks es, env, st, Q, E, h => rn_bind (rn_mono (wpEs_ok es h) (fun x s ⟨h1, h2, h⟩ => rn_onSt ⟨_, by rw [if_pos ⟨h1, h2⟩], h⟩) fun _ _ z => z)
  | .list e, env, st, Q, E, h => rn_bind (rn_mono (wpE_ok e h) (fun x s h => rn_onSt h) fun _ _ z => z)
  | .srt e, env, st, Q, E, h => rn_bind (rn_mono (wpE_ok e h) (fun x s h => rn_onSt h) fun _ _ z => z)
  | .dict e, env, st, Q, E, h => rn_bind (rn_mono (wpE_ok e h) (fun x s ⟨d, e, h⟩ => rn_onSt ⟨_, by rw [e]; rfl, h⟩) fun _ _ z => z)
  | .lc own src tg cs e, env, st, Q, E, h => rn_bind (rn_mono (wpI_ok src h) (fun p s ⟨ys, s', e1, h⟩ => by
      refine rn_bind ⟨.ok ys, s', ?_, rn_ok h⟩
      exact calm_eq e1) fun _ _ z => z)
  | .dc own src tg cs k e, env, st, Q, E, h => rn_bind (rn_mono (wpI_ok src h) (fun p s ⟨ys, s', e1, h⟩ => by
      refine rn_bind ⟨.ok ys, s', ?_, rn_ok h⟩
      exact calm_eq e1) fun _ _ z => z)
theorem wpI_ok : ∀ (f : PSrc) {env : Env} {st : Sto} {Q : D → List D → Sto → Prop} {E : Ex → Sto → Prop}, wpI O f env st Q E → Rn (evI O f env) st (fun p s => Q p.1 p.2 s) E
  | .val e, env, st, Q, E, h => rn_bind (rn_mono (wpE_ok e h) (fun x s ⟨xs, e, h⟩ => rn_onSt ⟨_, by rw [e]; rfl, h⟩) fun _ _ z => z)
  | .items e, env, st, Q, E, h => rn_bind (rn_mono (wpE_ok e h) (fun x s h => rn_onSt h) fun _ _ z => z)
  | .enum e, env, st, Q, E, h => rn_bind (rn_mono (wpE_ok e h) (fun x s h => rn_onSt h) fun _ _ z => z)
  | .zip a b, env, st, Q, E, h => rn_bind (rn_mono (wpE_ok a h) (fun x s h => rn_bind (rn_mono (wpE_ok b h) (fun y s h => rn_onSt h) fun _ _ z => z)) fun _ _ z => z)
  | .rng es, env, st, Q, E, h => rn_bind (rn_mono (wpEs_ok es h) (fun x s ⟨ys, e, h⟩ => rn_onSt ⟨_, by rw [e]; rfl, h⟩) fun _ _ z => z)
end
end
end Mp
end
section
set_option Elab.async false
set_option linter.all false
set_option maxRecDepth 100000
set_option maxHeartbeats 1000000
/-! Mp: .. of statements, calls, loops. -/
namespace Mp
open PySem L2
def seqQ (K : Env → Sto → Prop) (Q : Fl → Sto → Prop) : Fl → Sto → Prop
  | .next e, s => K e s
  | .ret d, s => Q (.ret d) s
  | .brk e, s => Q (.brk e) s
  | .cont e, s => Q (.cont e) s
  | .ex x e, s => Q (.ex x e) s
def tryQ (K : Ex → Env → Sto → Prop) (Q : Fl → Sto → Prop) : Fl → Sto → Prop
  | .ex x e, s => K x e s
  | .next e, s => Q (.next e) s
  | .ret d, s => Q (.ret d) s
  | .brk e, s => Q (.brk e) s
  | .cont e, s => Q (.cont e) s
def sEnd (i : Option Nat) (Q : Fl → Sto → Prop) (f : Fl) (s : Sto) : Prop := match suiteEnd i (some (f, s)) with
  | some (f', s') => Q f' s'
  | none => False
def forT (O : Orc) (W : Wld) (tg : Tg) (b : List PSt) (x : D) (env : Env) : SM := match put1 tg x env with
  | some env' => exSs O W b env'
  | none => no
section
variable (W : Wld)
mutual
def wpS : PSt → Orc → Env → Sto → (Fl → Sto → Prop) → Prop
  | .hole, _, _, _, _ => False
  | .pass, _, env, st, Q => Q (.next env) st
  | .expr e, O, env, st, Q => wpE O e env st (fun _ s => Q (.next env) s) (fun x s => Q (.ex x env) s)
  | .asg t e, O, env, st, Q => wpE O e env st (fun d s => ∃ env', put1 t d env = some env' ∧ Q (.next env') s) (fun x s => Q (.ex x env) s)
  | .par i j a b, O, env, st, Q => wpE O a env st (fun x s => wpE O b env s (fun y s => (i < env.length ∧ j < env.length) ∧ Q (.next ((env.set i (some x)).set j (some y))) s) (fun x s => Q (.ex x env) s)) (fun x s => Q (.ex x env) s)
  | .setf o f e, O, env, st, Q => wpE O e env st (fun v s => wpE O o env s (fun x s => ∃ s', setfD O.fld x f v s = some s' ∧ Q (.next env) s') (fun x s => Q (.ex x env) s)) (fun x s => Q (.ex x env) s)
  | .seti o i e, O, env, st, Q => wpE O e env st (fun v s => wpE O o env s (fun x s => wpE O i env s (fun y s => ∃ s', setiD x y v s = some s' ∧ Q (.next env) s') (fun x s => Q (.ex x env) s)) (fun x s => Q (.ex x env) s)) (fun x s => Q (.ex x env) s)
  | .aug i o e, O, env, st, Q => (match env[i]? with
    | some (some x) => wpE O e env st (fun y s => ∃ d, bopD o s x y = some d ∧ Q (.next (env.set i (some d))) s) (fun x s => Q (.ex x env) s)
    | _ => False)
  | .augf a f o e, O, env, st, Q => wpE O a env st (fun x s => ∃ v, fldD O s x f = some v ∧ wpE O e env s (fun y s => ∃ d, bopD o s v y = some d ∧ ∃ s', setfD O.fld x f d s = some s' ∧ Q (.next env) s') (fun x s => Q (.ex x env) s)) (fun x s => Q (.ex x env) s)
  | .ifs c t e, O, env, st, Q => wpE O c env st (fun x s => ∃ b, truth s x = some b ∧ wif b (wpSs t O env s Q) (wpSs e O env s Q)) (fun x s => Q (.ex x env) s)
  | .fors src tg b, O, env, st, Q => wpI O src env st (fun d xs s => ∃ f s', forGo (heldD d xs) (forT O W tg b) xs env s = some (f, s') ∧ Q f s') (fun x s => Q (.ex x env) s)
  | .whl c b, O, env, st, Q => ∃ f s', whlGo (fun env => (evE O c env).bind fun x => onSt fun st => truth st x) (fun env => exSs O W b env) W.fuel env st = some (f, s') ∧ Q f s'
  | .ret e, O, env, st, Q => wpE O e env st (fun d s => Q (.ret d) s) (fun x s => Q (.ex x env) s)
  | .retn, _, env, st, Q => Q (.ret .non) st
  | .cont, _, env, st, Q => Q (.cont env) st
  | .brk, _, env, st, Q => Q (.brk env) st
  | .rais C es, O, env, st, Q => wpEs O es env st (fun xs s => ∃ x, W.mkx C xs = some x ∧ Q (.ex x env) s) (fun x s => Q (.ex x env) s)
  | .try_ b hs, O, env, st, Q => wpSs b O env st (tryQ (fun x e s => wpH hs O x e s Q) Q)
def wpSs : List PSt → Orc → Env → Sto → (Fl → Sto → Prop) → Prop
  | [], _, env, st, Q => Q (.next env) st
  | p :: ps, O, env, st, Q => wpS p O env st (seqQ (fun e s => wpSs ps O e s Q) Q)
def wpH : List PH → Orc → Ex → Env → Sto → (Fl → Sto → Prop) → Prop
  | [], _, x, env, st, Q => Q (.ex x env) st
  | .mk cs i b :: hs, O, x, env, st, Q => ∃ t, matches_ W x.cls cs = some t ∧ wif t (match i with
    | none => wpSs b { O with exc := none } env st (sEnd none Q)
    | some i => i < env.length ∧ wpSs b { O with exc := some x } (env.set i none) st (sEnd (some i) Q)) (wpH hs O x env st Q)
end
end
theorem rns_seq {m : SM} {f : Env → SM} {st : Sto} {Q : Fl → Sto → Prop} (h : RnS m st (seqQ (fun e s => RnS (f e) s Q) Q)) : RnS (m.seq f) st Q := by
  obtain ⟨g, s, e, h⟩ := h
  cases g with
  | next env =>
    obtain ⟨g2, s2, e2, h2⟩ := h
    refine ⟨g2, s2, ?_, h2⟩
    unfold SM.seq
    rw [e]
    exact e2
  | ret d => exact ⟨.ret d, s, by unfold SM.seq; rw [e], h⟩
  | brk d => exact ⟨.brk d, s, by unfold SM.seq; rw [e], h⟩
  | cont d => exact ⟨.cont d, s, by unfold SM.seq; rw [e], h⟩
  | ex x d => exact ⟨.ex x d, s, by unfold SM.seq; rw [e], h⟩
theorem rns_mono {m : SM} {st : Sto} {Q Q' : Fl → Sto → Prop} (h : RnS m st Q) (q : ∀ f s, Q f s → Q' f s) : RnS m st Q' := by
  obtain ⟨f, s, e, h⟩ := h
  exact ⟨f, s, e, q f s h⟩
theorem rns_set {o : Sto → Option Sto} {st : Sto} {env : Env} {Q : Fl → Sto → Prop} (h : ∃ s', o st = some s' ∧ Q (.next env) s') : RnS (fun st => (o st).map fun s => (Fl.next env, s)) st Q := by
  obtain ⟨s', e, h⟩ := h
  exact ⟨.next env, s', by dsimp only; rw [e]; rfl, h⟩
theorem try_eq {m : SM} {k : Ex → Env → SM} {st s s2 : Sto} {x : Ex} {env : Env} {f : Fl} (e : m st = some (.ex x env, s)) (e2 : k x env s = some (f, s2)) : (match m st with
      | some (.ex x env', s) => k x env' s
      | r => r) = some (f, s2) := by
  rw [e]
  exact e2
theorem try_oth {m : SM} {k : Ex → Env → SM} {st s : Sto} {f : Fl} (e : m st = some (f, s)) (n : ∀ x env, f ≠ .ex x env) : (match m st with
      | some (.ex x env', s) => k x env' s
      | r => r) = some (f, s) := by
  rw [e]
  cases f <;> first | rfl | exact absurd rfl (n _ _)
section
variable {W : Wld}
mutual
theorem wpS_ok : ∀ (p : PSt) {O : Orc} {env : Env} {st : Sto} {Q : Fl → Sto → Prop}, wpS W p O env st Q → RnS (exS O W p env) st Q
  | .hole, O, env, st, Q, h => h.elim
  | .pass, O, env, st, Q, h => rns_fl h
  | .expr e, O, env, st, Q, h => rns_run (rn_mono (wpE_ok e h) (fun x s h => rns_fl h) fun _ _ z => z)
  | .asg t e, O, env, st, Q, h => rns_run (rn_mono (wpE_ok e h) (fun x s ⟨env', e1, h⟩ => by
      show RnS (match put1 t x env with
        | some env' => fl (.next env')
        | none => no) s Q
      rw [e1]
      exact rns_fl h) fun _ _ z => z)
  | .par i j a b, O, env, st, Q, h => rns_run (rn_mono (wpE_ok a h) (fun x s h => rns_run (rn_mono (wpE_ok b h) (fun y s ⟨hl, h⟩ => by
      show RnS (if i < env.length ∧ j < env.length then fl (.next ((env.set i (some x)).set j (some y))) else no) s Q
      rw [if_pos hl]
      exact rns_fl h) fun _ _ z => z)) fun _ _ z => z)
  | .setf o f e, O, env, st, Q, h => rns_run (rn_mono (wpE_ok e h) (fun v s h => rns_run (rn_mono (wpE_ok o h) (fun x s h => rns_set h) fun _ _ z => z)) fun _ _ z => z)
  | .seti o i e, O, env, st, Q, h => rns_run (rn_mono (wpE_ok e h) (fun v s h => rns_run (rn_mono (wpE_ok o h) (fun x s h => rns_run (rn_mono (wpE_ok i h) (fun y s h => rns_set h) fun _ _ z => z)) fun _ _ z => z)) fun _ _ z => z)
  | .aug i o e, O, env, st, Q, h => by
    have h : (match env[i]? with
      | some (some x) => wpE O e env st (fun y s => ∃ d, bopD o s x y = some d ∧ Q (.next (env.set i (some d))) s) (fun x s => Q (.ex x env) s)
      | _ => False) := h
    show RnS (match env[i]? with
      | some (some x) => (evE O e env).run env fun y => fun st => (bopD o st x y).map fun d => (.next (env.set i (some d)), st)
      | _ => no) st Q
    split at h
    · exact rns_run (rn_mono (wpE_ok e h) (fun y s ⟨d, e1, h⟩ => ⟨_, _, by dsimp only; rw [e1]; rfl, h⟩) fun _ _ z => z)
    · exact h.elim
  | .augf a f o e, O, env, st, Q, h => rns_run (rn_mono (wpE_ok a h) (fun x s ⟨v, e1, h⟩ => rns_run (rn_onSt ⟨v, e1, rns_run (rn_mono (wpE_ok e h) (fun y s ⟨d, e2, s', e3, h⟩ => ⟨_, _, by
      show ((bopD o s v y).bind fun d => (setfD O.fld x f d s).map fun s => (Fl.next env, s)) = _
      rw [e2]
      show ((setfD O.fld x f d s).map fun s => (Fl.next env, s)) = _
      rw [e3]
      rfl, h⟩) fun _ _ z => z)⟩)) fun _ _ z => z)
  | .ifs c t e, O, env, st, Q, h => rns_run (rn_mono (wpE_ok c h) (fun x s ⟨b, e1, h⟩ => rns_run (rn_onSt ⟨b, e1, by
      cases b with
      | true => exact wpSs_ok t h
      | false => exact wpSs_ok e h⟩)) fun _ _ z => z)
  | .fors src tg b, O, env, st, Q, h => rns_run (rn_mono (wpI_ok src h) (fun p s h => h) fun _ _ z => z)
  | .whl c b, O, env, st, Q, h => h
  | .ret e, O, env, st, Q, h => rns_run (rn_mono (wpE_ok e h) (fun x s h => rns_fl h) fun _ _ z => z)
  | .retn, O, env, st, Q, h => rns_fl h
  | .cont, O, env, st, Q, h => rns_fl h
  | .brk, O, env, st, Q, h => rns_fl h
  | .rais C es, O, env, st, Q, h => rns_run (rn_mono (wpEs_ok es h) (fun xs s ⟨x, e1, h⟩ => by
      show RnS (match W.mkx C xs with
        | some x => fl (.ex x env)
        | none => no) s Q
      rw [e1]
      exact rns_fl h) fun _ _ z => z)
  | .try_ b hs, O, env, st, Q, h => by
    obtain ⟨f, s, e, h⟩ := wpSs_ok b h
    show RnS (fun st => match exSs O W b env st with
      | some (.ex x env', s) => exH O W hs x env' s
      | r => r) st Q
    cases f with
    | ex x env' =>
      obtain ⟨f2, s2, e2, h2⟩ := wpH_ok hs h
      exact ⟨f2, s2, try_eq e e2, h2⟩
    | next env' => exact ⟨_, _, try_oth e fun _ _ q => (nomatch q), h⟩
    | ret d => exact ⟨_, _, try_oth e fun _ _ q => (nomatch q), h⟩
    | brk d => exact ⟨_, _, try_oth e fun _ _ q => (nomatch q), h⟩
    | cont d => exact ⟨_, _, try_oth e fun _ _ q => (nomatch q), h⟩
theorem wpSs_ok : ∀ (ps : List PSt) {O : Orc} {env : Env} {st : Sto} {Q : Fl → Sto → Prop}, wpSs W ps O env st Q → RnS (exSs O W ps env) st Q
  | [], O, env, st, Q, h => rns_fl h
  | p :: ps, O, env, st, Q, h => rns_seq (rns_mono (wpS_ok p h) fun f s h => by
      cases f with
      | next e => exact wpSs_ok ps h
      | _ => exact h)
theorem wpH_ok : ∀ (hs : List PH) {O : Orc} {x : Ex} {env : Env} {st : Sto} {Q : Fl → Sto → Prop}, wpH W hs O x env st Q → RnS (exH O W hs x env) st Q
  | [], O, x, env, st, Q, h => rns_fl h
  | .mk cs i b :: hs, O, x, env, st, Q, h => by
    obtain ⟨t, e, h⟩ := h
    show RnS (match matches_ W x.cls cs with
      | none => no
      | some true => suiteAt i (fun e env => exSs { O with exc := e } W b env) x env
      | some false => exH O W hs x env) st Q
    rw [e]
    have fin : ∀ {i : Option Nat} {m : SM} {st : Sto}, RnS m st (sEnd i Q) → RnS (fun st => suiteEnd i (m st)) st Q := fun {i m st} h => by
      obtain ⟨f, s, e, h⟩ := h
      unfold sEnd at h
      cases q : suiteEnd i (some (f, s)) with
      | none =>
        rw [q] at h
        exact h.elim
      | some p =>
        rw [q] at h
        refine ⟨p.1, p.2, ?_, h⟩
        show suiteEnd i (m st) = _
        rw [e]
        exact q
    cases t with
    | false => exact wpH_ok hs h
    | true =>
      cases i with
      | none => exact fin (wpSs_ok b (O := { O with exc := none }) h)
      | some i =>
        obtain ⟨h1, h2⟩ := (show i < env.length ∧ wpSs W b { O with exc := some x } (env.set i none) st (sEnd (some i) Q) from h)
        have q := fin (wpSs_ok b (O := { O with exc := some x }) h2)
        show RnS (if i < env.length then fun st => suiteEnd (some i) (exSs { O with exc := some x } W b (env.set i none) st) else no) st Q
        rw [if_pos h1]
        exact q
end
end
/-- a call's end -/
def callQ (frz : Bool) (n : Nat) (Q : R D → Sto → Prop) : Fl → Sto → Prop
  | .next _, s => ∃ r s', finish frz n .non s = some (r, s') ∧ Q r s'
  | .ret d, s => ∃ r s', finish frz n d s = some (r, s') ∧ Q r s'
  | .ex x _, s => ∃ r s', finX frz n x s = some (r, s') ∧ Q r s'
  | _, _ => False
/-- a call: its body's run -/
theorem call_run {P : Prg} {k : Nat} {f : Str} {xs : List D} {st : Sto} {F : Fn} {Q : R D → Sto → Prop} (h : P.fn f = some F) (hl : xs.length = F.np) (b : wpSs P.wld F.body (orc P (callF P k)) (xs.map some ++ List.replicate (F.n - F.np) none) st (callQ F.frz st.length Q)) :
    ∃ r s, callF P (k + 1) f xs st = some (r, s) ∧ Q r s := by
  obtain ⟨g, s, e, q⟩ := wpSs_ok F.body b
  have e0 : callF P (k + 1) f xs st = (match P.fn f with
    | none => none
    | some F => if xs.length = F.np then (match exSs (orc P (callF P k)) P.wld F.body (xs.map some ++ List.replicate (F.n - F.np) none) st with
      | some (.next _, s) => Mp.finish F.frz st.length .non s
      | some (.ret d, s) => Mp.finish F.frz st.length d s
      | some (.ex x _, s) => finX F.frz st.length x s
      | _ => none) else none) := rfl
  rw [e0, h]
  dsimp only
  rw [if_pos hl, e]
  cases g with
  | next _ => exact q
  | ret d => exact q
  | ex x _ => exact q
  | brk _ => exact q.elim
  | cont _ => exact q.elim
/-- a for's turns, by an invariant -/
theorem for_inv {h : Sto → Bool} {f : D → Env → SM} (I : Nat → Env → Sto → Prop) {xs : List D} {env : Env} {st : Sto} {Q : Fl → Sto → Prop} (h0 : I 0 env st) (hh : ∀ i env st, I i env st → h st = true)
    (step : ∀ i x env st, xs[i]? = some x → I i env st → RnS (f x env) st (fun g s => match g with
      | .next e => I (i + 1) e s
      | .cont e => I (i + 1) e s
      | .brk e => Q (.next e) s
      | .ret d => Q (.ret d) s
      | .ex x e => Q (.ex x e) s)) (fin : ∀ env st, I xs.length env st → Q (.next env) st) : ∃ g s, forGo h f xs env st = some (g, s) ∧ Q g s := by
  have key : ∀ (ys : List D) (n : Nat) (env : Env) (st : Sto), xs.drop n = ys → n ≤ xs.length → I n env st → ∃ g s, forGo h f ys env st = some (g, s) ∧ Q g s := by
    intro ys
    induction ys with
    | nil =>
      intro n env st e hn i
      have hl : xs.length ≤ n := List.drop_eq_nil_iff.mp e
      have hn2 : n = xs.length := by omega
      subst hn2
      refine ⟨.next env, st, ?_, fin env st i⟩
      show (match h st with
        | true => fl (.next env) st
        | false => none) = _
      rw [hh _ _ _ i]
      rfl
    | cons x r ih =>
      intro n env st e hn i
      have hx : xs[n]? = some x := by
        have := congrArg (·[0]?) e
        simpa using this
      have hr : xs.drop (n + 1) = r := by
        rw [← List.drop_drop, e]
        rfl
      have hn1 : n < xs.length := (List.getElem?_eq_some_iff.mp hx).1
      obtain ⟨g, s, e1, q⟩ := step n x env st hx i
      have e2 : forGo h f (x :: r) env st = (match h st with
        | true => (match f x env st with
          | some (.next e, s) => forGo h f r e s
          | some (.cont e, s) => forGo h f r e s
          | some (.brk e, s) => some (.next e, s)
          | r => r)
        | false => none) := rfl
      rw [e2, hh _ _ _ i]
      dsimp only
      rw [e1]
      cases g with
      | next e' => exact ih (n + 1) e' s hr hn1 q
      | cont e' => exact ih (n + 1) e' s hr hn1 q
      | brk e' => exact ⟨_, _, rfl, q⟩
      | ret d => exact ⟨_, _, rfl, q⟩
      | ex x' e' => exact ⟨_, _, rfl, q⟩
  exact key xs 0 env st rfl (Nat.zero_le _) h0
/-- a comprehension that keeps the store -/
theorem lc_map {h : Sto → Bool} {f : D → M (Option D)} {g : D → Option D} {st : Sto} (hh : h st = true) : ∀ (xs : List D) (acc : List D), acc.length + xs.length ≤ 16777216 → (∀ x ∈ xs, f x st = some (.ok (g x), st)) → lcGo h f xs acc st = some (.ok (acc ++ xs.filterMap g), st)
  | [], acc, _, _ => by
    show (match h st with
      | true => M.ok acc st
      | false => none) = _
    rw [hh]
    simp [M.ok]
  | x :: xs, acc, hl, hx => by
    have e1 := hx x List.mem_cons_self
    have e2 : lcGo h f (x :: xs) acc st = (match h st with
      | true => (f x).bind (fun
        | none => lcGo h f xs acc
        | some y => if acc.length < 16777216 then lcGo h f xs (acc ++ [y]) else M.no) st
      | false => none) := rfl
    rw [e2, hh]
    dsimp only
    unfold M.bind
    rw [e1]
    have hlen : (x :: xs).length = xs.length + 1 := rfl
    cases q : g x with
    | none =>
      dsimp only
      rw [lc_map hh xs acc (by omega) fun y hy => hx y (List.mem_cons_of_mem _ hy)]
      simp [List.filterMap_cons, q]
    | some y =>
      dsimp only
      rw [if_pos (by omega), lc_map hh xs (acc ++ [y]) (by simp; omega) fun y hy => hx y (List.mem_cons_of_mem _ hy)]
      simp [List.filterMap_cons, q]
/-- a turn of one -/
theorem lcT_ok {O : Orc} {own : List Nat} {tg : Tg} {cs : List PX} {p : PX} {env env' : Env} {x : D} {st : Sto} {Q : Option D → Sto → Prop} {E : Ex → Sto → Prop} (e : put1 tg x (wipeE env own) = some env') (h : wpCs O cs env' st (fun b s => wif b (wpE O p env' s (fun d s => Q (some d) s) E) (Q none s)) E) : Rn (lcT O own tg cs p env x) st Q E := by
  unfold lcT
  rw [e]
  refine rn_bind (rn_mono (wpCs_ok cs h) (fun b s h => ?_) fun _ _ z => z)
  cases b with
  | true => exact rn_bind (rn_mono (wpE_ok p h) (fun d s h => rn_ok h) fun _ _ z => z)
  | false => exact rn_ok h
theorem forT_ok {O : Orc} {W : Wld} {tg : Tg} {b : List PSt} {x : D} {env env' : Env} {st : Sto} {Q : Fl → Sto → Prop} (e : put1 tg x env = some env') (h : wpSs W b O env' st Q) : RnS (forT O W tg b x env) st Q := by
  unfold forT
  rw [e]
  exact wpSs_ok b h
theorem rnss_cons {O : Orc} {W : Wld} {p : PSt} {ps : List PSt} {env : Env} {st : Sto} {Q : Fl → Sto → Prop} (h : RnS (exS O W p env) st (seqQ (fun e s => RnS (exSs O W ps e) s Q) Q)) : RnS (exSs O W (p :: ps) env) st Q := rns_seq h
/-- statements whose run is known -/
theorem rnss_app {O : Orc} {W : Wld} {ps qs : List PSt} {env env' : Env} {st st' : Sto} {Q : Fl → Sto → Prop} (e : exSs O W ps env st = some (.next env', st')) (h : RnS (exSs O W qs env') st' Q) : RnS (exSs O W (ps ++ qs) env) st Q := by
  have key : ∀ (ps : List PSt) (env : Env) (st : Sto), exSs O W ps env st = some (.next env', st') → exSs O W (ps ++ qs) env st = exSs O W qs env' st' := by
    intro ps
    induction ps with
    | nil =>
      intro env st e
      cases e
      rfl
    | cons p ps ih =>
      intro env st e
      have e2 : (match exS O W p env st with
        | some (.next env, s) => exSs O W ps env s
        | r => r) = some (.next env', st') := e
      show (match exS O W p env st with
        | some (.next env, s) => exSs O W (ps ++ qs) env s
        | r => r) = _
      cases q : exS O W p env st with
      | none =>
        rw [q] at e2
        cases e2
      | some z =>
        obtain ⟨f, s⟩ := z
        rw [q] at e2
        cases f with
        | next e1 => exact ih e1 s e2
        | ret _ => cases e2
        | brk _ => cases e2
        | cont _ => cases e2
        | ex _ _ => cases e2
  obtain ⟨f, s, e3, q⟩ := h
  exact ⟨f, s, (key ps env st e).trans e3, q⟩
theorem call_runR {P : Prg} {k : Nat} {f : Str} {xs : List D} {st : Sto} {F : Fn} {Q : R D → Sto → Prop} (h : P.fn f = some F) (hl : xs.length = F.np) (b : RnS (exSs (orc P (callF P k)) P.wld F.body (xs.map some ++ List.replicate (F.n - F.np) none)) st (callQ F.frz st.length Q)) :
    ∃ r s, callF P (k + 1) f xs st = some (r, s) ∧ Q r s := by
  obtain ⟨g, s, e, q⟩ := b
  have e0 : callF P (k + 1) f xs st = (match P.fn f with
    | none => none
    | some F => if xs.length = F.np then (match exSs (orc P (callF P k)) P.wld F.body (xs.map some ++ List.replicate (F.n - F.np) none) st with
      | some (.next _, s) => Mp.finish F.frz st.length .non s
      | some (.ret d, s) => Mp.finish F.frz st.length d s
      | some (.ex x _, s) => finX F.frz st.length x s
      | _ => none) else none) := rfl
  rw [e0, h]
  dsimp only
  rw [if_pos hl, e]
  cases g with
  | next _ => exact q
  | ret d => exact q
  | ex x _ => exact q
  | brk _ => exact q.elim
  | cont _ => exact q.elim
theorem forT_okR {O : Orc} {W : Wld} {tg : Tg} {b : List PSt} {x : D} {env env' : Env} {st : Sto} {Q : Fl → Sto → Prop} (e : put1 tg x env = some env') (h : RnS (exSs O W b env') st Q) : RnS (forT O W tg b x env) st Q := by
  unfold forT
  rw [e]
  exact h
def flT : Option (Fl × Sto) → Bool
  | some (.ret (.bl b), _) => b
  | _ => false
theorem flT_ok {m : Option (Fl × Sto)} (h : flT m = true) : ∃ s, m = some (.ret (.bl true), s) := by
  unfold flT at h
  split at h
  · subst h
    exact ⟨_, rfl⟩
  · cases h
end Mp
end
section
set_option Elab.async false
set_option linter.all false
set_option maxRecDepth 100000
set_option maxHeartbeats 0
namespace K78
open PySem PySem.Spec PyProof.Rows L2 Mp
abbrev N0 : List Str := [n_text, n_sign]
theorem sc0 : FnScope N0 [n_text] (defScope s0) := ⟨by decide +kernel, by decide +kernel, by decide +kernel, by decide +kernel, by decide +kernel, by decide +kernel, by decide +kernel⟩
theorem ok0 : okSs ⟨N0, defScope s0, fun _ => true, Tb, true, none⟩ f0.body (defBody s0) = true := by decide +kernel
abbrev N1 : List Str := [n_text]
theorem sc1 : FnScope N1 [n_text] (defScope s1) := ⟨by decide +kernel, by decide +kernel, by decide +kernel, by decide +kernel, by decide +kernel, by decide +kernel, by decide +kernel⟩
theorem ok1 : okSs ⟨N1, defScope s1, fun _ => true, Tb, true, none⟩ f1.body (defBody s1) = true := by decide +kernel
abbrev N2 : List Str := [n_self, n_lines, n_coming, n_known, n_papers]
theorem sc2 : FnScope N2 [n_self, n_lines, n_coming, n_known, n_papers] (defScope s2) := ⟨by decide +kernel, by decide +kernel, by decide +kernel, by decide +kernel, by decide +kernel, by decide +kernel, by decide +kernel⟩
theorem ok2 : okSs ⟨N2, defScope s2, fun _ => true, Tb, true, none⟩ f2.body (defBody s2) = true := by decide +kernel
abbrev N3 : List Str := [n_self, n_lines, n_coming]
theorem sc3 : FnScope N3 [n_self, n_lines, n_coming] (defScope s3) := ⟨by decide +kernel, by decide +kernel, by decide +kernel, by decide +kernel, by decide +kernel, by decide +kernel, by decide +kernel⟩
theorem ok3 : okSs ⟨N3, defScope s3, fun _ => true, Tb, true, none⟩ f3.body (defBody s3) = true := by decide +kernel
abbrev N4 : List Str := [n_self, n_known]
theorem sc4 : FnScope N4 [n_self, n_known] (defScope s4) := ⟨by decide +kernel, by decide +kernel, by decide +kernel, by decide +kernel, by decide +kernel, by decide +kernel, by decide +kernel⟩
theorem ok4 : okSs ⟨N4, defScope s4, fun _ => true, Tb, true, none⟩ f4.body (defBody s4) = true := by decide +kernel
abbrev N5 : List Str := [n_self, n_papers]
theorem sc5 : FnScope N5 [n_self, n_papers] (defScope s5) := ⟨by decide +kernel, by decide +kernel, by decide +kernel, by decide +kernel, by decide +kernel, by decide +kernel, by decide +kernel⟩
theorem ok5 : okSs ⟨N5, defScope s5, fun _ => true, Tb, true, none⟩ f5.body (defBody s5) = true := by decide +kernel
abbrev N6 : List Str := []
theorem sc6 : FnScope N6 [] (defScope s6) := ⟨by decide +kernel, by decide +kernel, by decide +kernel, by decide +kernel, by decide +kernel, by decide +kernel, by decide +kernel⟩
theorem ok6 : okSs ⟨N6, defScope s6, fun _ => true, Tb, true, none⟩ f6.body (defBody s6) = true := by decide +kernel
abbrev N7 : List Str := [n_stand, n_left, n_right, n_number]
theorem sc7 : FnScope N7 [n_stand, n_left, n_right] (defScope s7) := ⟨by decide +kernel, by decide +kernel, by decide +kernel, by decide +kernel, by decide +kernel, by decide +kernel, by decide +kernel⟩
theorem ok7 : okSs ⟨N7, defScope s7, fun _ => true, Tb, true, none⟩ f7.body (defBody s7) = true := by decide +kernel
abbrev N8 : List Str := [n_stand, n_number, n_gone, n_papers, n_left, n_line, n_label, n_paper]
theorem sc8 : FnScope N8 [n_stand, n_number] (defScope s8) := ⟨by decide +kernel, by decide +kernel, by decide +kernel, by decide +kernel, by decide +kernel, by decide +kernel, by decide +kernel⟩
theorem ok8 : okSs ⟨N8, defScope s8, fun _ => true, Tb, true, none⟩ f8.body (defBody s8) = true := by decide +kernel
abbrev N9 : List Str := [n_text, n_sign]
theorem sc9 : FnScope N9 [n_text] (defScope s9) := ⟨by decide +kernel, by decide +kernel, by decide +kernel, by decide +kernel, by decide +kernel, by decide +kernel, by decide +kernel⟩
theorem ok9 : okSs ⟨N9, defScope s9, fun _ => true, Tb, true, none⟩ f9.body (defBody s9) = true := by decide +kernel
abbrev N10 : List Str := [n_text]
theorem sc10 : FnScope N10 [n_text] (defScope s10) := ⟨by decide +kernel, by decide +kernel, by decide +kernel, by decide +kernel, by decide +kernel, by decide +kernel, by decide +kernel⟩
theorem ok10 : okSs ⟨N10, defScope s10, fun _ => true, Tb, true, none⟩ f10.body (defBody s10) = true := by decide +kernel
abbrev N11 : List Str := [n_stand, n_name, n_word, n_known]
theorem sc11 : FnScope N11 [n_stand, n_name, n_word] (defScope s11) := ⟨by decide +kernel, by decide +kernel, by decide +kernel, by decide +kernel, by decide +kernel, by decide +kernel, by decide +kernel⟩
theorem ok11 : okSs ⟨N11, defScope s11, fun _ => true, Tb, true, none⟩ f11.body (defBody s11) = true := by decide +kernel
abbrev N12 : List Str := [n_stand, n_deed, n_rounds, n_word, n_things]
theorem sc12 : FnScope N12 [n_stand, n_deed, n_rounds] (defScope s12) := ⟨by decide +kernel, by decide +kernel, by decide +kernel, by decide +kernel, by decide +kernel, by decide +kernel, by decide +kernel⟩
theorem ok12 : okSs ⟨N12, defScope s12, fun _ => true, Tb, true, none⟩ f12.body (defBody s12) = true := by decide +kernel
abbrev N13 : List Str := [n_self]
theorem sc13 : FnScope N13 [n_self] (defScope s13) := ⟨by decide +kernel, by decide +kernel, by decide +kernel, by decide +kernel, by decide +kernel, by decide +kernel, by decide +kernel⟩
theorem ok13 : okSs ⟨N13, defScope s13, fun _ => true, Tb, true, none⟩ f13.body (defBody s13) = true := by decide +kernel
abbrev N14 : List Str := [n_self, n_stand]
theorem sc14 : FnScope N14 [n_self, n_stand] (defScope s14) := ⟨by decide +kernel, by decide +kernel, by decide +kernel, by decide +kernel, by decide +kernel, by decide +kernel, by decide +kernel⟩
theorem ok14 : okSs ⟨N14, defScope s14, fun _ => true, Tb, true, none⟩ f14.body (defBody s14) = true := by decide +kernel
abbrev N15 : List Str := [n_self, n_stand, n_told]
theorem sc15 : FnScope N15 [n_self, n_stand, n_told] (defScope s15) := ⟨by decide +kernel, by decide +kernel, by decide +kernel, by decide +kernel, by decide +kernel, by decide +kernel, by decide +kernel⟩
theorem ok15 : okSs ⟨N15, defScope s15, fun _ => true, Tb, true, none⟩ f15.body (defBody s15) = true := by decide +kernel
abbrev N16 : List Str := [n_self, n_deed, n_rounds, n_stand, n_told]
theorem sc16 : FnScope N16 [n_self, n_deed, n_rounds] (defScope s16) := ⟨by decide +kernel, by decide +kernel, by decide +kernel, by decide +kernel, by decide +kernel, by decide +kernel, by decide +kernel⟩
theorem ok16 : okSs ⟨N16, defScope s16, fun _ => true, Tb, true, none⟩ f16.body (defBody s16) = true := by decide +kernel
abbrev N17 : List Str := [n_self, n_left, n_right]
theorem sc17 : FnScope N17 [n_self, n_left, n_right] (defScope s17) := ⟨by decide +kernel, by decide +kernel, by decide +kernel, by decide +kernel, by decide +kernel, by decide +kernel, by decide +kernel⟩
theorem ok17 : okSs ⟨N17, defScope s17, fun _ => true, Tb, true, none⟩ f17.body (defBody s17) = true := by decide +kernel
abbrev N18 : List Str := [n_self, n_number]
theorem sc18 : FnScope N18 [n_self, n_number] (defScope s18) := ⟨by decide +kernel, by decide +kernel, by decide +kernel, by decide +kernel, by decide +kernel, by decide +kernel, by decide +kernel⟩
theorem ok18 : okSs ⟨N18, defScope s18, fun _ => true, Tb, true, none⟩ f18.body (defBody s18) = true := by decide +kernel
abbrev N19 : List Str := [n_self, n_word_name, n_word]
theorem sc19 : FnScope N19 [n_self, n_word_name, n_word] (defScope s19) := ⟨by decide +kernel, by decide +kernel, by decide +kernel, by decide +kernel, by decide +kernel, by decide +kernel, by decide +kernel⟩
theorem ok19 : okSs ⟨N19, defScope s19, fun _ => true, Tb, true, none⟩ f19.body (defBody s19) = true := by decide +kernel
abbrev N20 : List Str := [n_self]
theorem sc20 : FnScope N20 [n_self] (defScope s20) := ⟨by decide +kernel, by decide +kernel, by decide +kernel, by decide +kernel, by decide +kernel, by decide +kernel, by decide +kernel⟩
theorem ok20 : okSs ⟨N20, defScope s20, fun _ => true, Tb, true, none⟩ f20.body (defBody s20) = true := by decide +kernel
abbrev N21 : List Str := [n_self]
theorem sc21 : FnScope N21 [n_self] (defScope s21) := ⟨by decide +kernel, by decide +kernel, by decide +kernel, by decide +kernel, by decide +kernel, by decide +kernel, by decide +kernel⟩
theorem ok21 : okSs ⟨N21, defScope s21, fun _ => true, Tb, true, none⟩ f21.body (defBody s21) = true := by decide +kernel
abbrev N22 : List Str := [n_self]
theorem sc22 : FnScope N22 [n_self] (defScope s22) := ⟨by decide +kernel, by decide +kernel, by decide +kernel, by decide +kernel, by decide +kernel, by decide +kernel, by decide +kernel⟩
theorem ok22 : okSs ⟨N22, defScope s22, fun _ => true, Tb, true, none⟩ f22.body (defBody s22) = true := by decide +kernel
abbrev N23 : List Str := [n_self, n_name]
theorem sc23 : FnScope N23 [n_self] (defScope s23) := ⟨by decide +kernel, by decide +kernel, by decide +kernel, by decide +kernel, by decide +kernel, by decide +kernel, by decide +kernel⟩
theorem ok23 : okSs ⟨N23, defScope s23, fun _ => true, Tb, true, none⟩ f23.body (defBody s23) = true := by decide +kernel
abbrev N24 : List Str := [n_self]
theorem sc24 : FnScope N24 [n_self] (defScope s24) := ⟨by decide +kernel, by decide +kernel, by decide +kernel, by decide +kernel, by decide +kernel, by decide +kernel, by decide +kernel⟩
theorem ok24 : okSs ⟨N24, defScope s24, fun _ => true, Tb, true, none⟩ f24.body (defBody s24) = true := by decide +kernel
abbrev N25 : List Str := [n_word]
theorem sc25 : FnScope N25 [n_word] (defScope s25) := ⟨by decide +kernel, by decide +kernel, by decide +kernel, by decide +kernel, by decide +kernel, by decide +kernel, by decide +kernel⟩
theorem ok25 : okSs ⟨N25, defScope s25, fun _ => true, Tb, true, none⟩ f25.body (defBody s25) = true := by decide +kernel
abbrev N26 : List Str := [n_text]
theorem sc26 : FnScope N26 [n_text] (defScope s26) := ⟨by decide +kernel, by decide +kernel, by decide +kernel, by decide +kernel, by decide +kernel, by decide +kernel, by decide +kernel⟩
theorem ok26 : okSs ⟨N26, defScope s26, fun _ => true, Tb, true, none⟩ f26.body (defBody s26) = true := by decide +kernel
abbrev N27 : List Str := [n_text, n_sign]
theorem sc27 : FnScope N27 [n_text] (defScope s27) := ⟨by decide +kernel, by decide +kernel, by decide +kernel, by decide +kernel, by decide +kernel, by decide +kernel, by decide +kernel⟩
theorem ok27 : okSs ⟨N27, defScope s27, fun _ => true, Tb, true, none⟩ f27.body (defBody s27) = true := by decide +kernel
abbrev N28 : List Str := [n_hall, n_rows, n_number, n_left, n_right, n_name, n_word, n_row]
theorem sc28 : FnScope N28 [n_hall] (defScope s28) := ⟨by decide +kernel, by decide +kernel, by decide +kernel, by decide +kernel, by decide +kernel, by decide +kernel, by decide +kernel⟩
theorem ok28 : okSs ⟨N28, defScope s28, fun _ => true, Tb, true, none⟩ f28.body (defBody s28) = true := by decide +kernel
abbrev N29 : List Str := [n_row, n_one]
theorem sc29 : FnScope N29 [n_row] (defScope s29) := ⟨by decide +kernel, by decide +kernel, by decide +kernel, by decide +kernel, by decide +kernel, by decide +kernel, by decide +kernel⟩
theorem ok29 : okSs ⟨N29, defScope s29, fun _ => true, Tb, true, none⟩ f29.body (defBody s29) = true := by decide +kernel
abbrev N30 : List Str := [n_text, n_found]
theorem sc30 : FnScope N30 [n_text] (defScope s30) := ⟨by decide +kernel, by decide +kernel, by decide +kernel, by decide +kernel, by decide +kernel, by decide +kernel, by decide +kernel⟩
theorem ok30 : okSs ⟨N30, defScope s30, fun _ => true, Tb, true, none⟩ f30.body (defBody s30) = true := by decide +kernel
abbrev N31 : List Str := [n_hall, n_words]
theorem sc31 : FnScope N31 [n_hall, n_words] (defScope s31) := ⟨by decide +kernel, by decide +kernel, by decide +kernel, by decide +kernel, by decide +kernel, by decide +kernel, by decide +kernel⟩
theorem ok31 : okSs ⟨N31, defScope s31, fun _ => true, Tb, true, none⟩ f31.body (defBody s31) = true := by decide +kernel
abbrev N32 : List Str := [n_hall, n_words, n_number]
theorem sc32 : FnScope N32 [n_hall, n_words] (defScope s32) := ⟨by decide +kernel, by decide +kernel, by decide +kernel, by decide +kernel, by decide +kernel, by decide +kernel, by decide +kernel⟩
theorem ok32 : okSs ⟨N32, defScope s32, fun _ => true, Tb, true, none⟩ f32.body (defBody s32) = true := by decide +kernel
abbrev N33 : List Str := [n_hall, n_words]
theorem sc33 : FnScope N33 [n_hall, n_words] (defScope s33) := ⟨by decide +kernel, by decide +kernel, by decide +kernel, by decide +kernel, by decide +kernel, by decide +kernel, by decide +kernel⟩
theorem ok33 : okSs ⟨N33, defScope s33, fun _ => true, Tb, true, none⟩ f33.body (defBody s33) = true := by decide +kernel
abbrev N34 : List Str := [n_self, n_hall]
theorem sc34 : FnScope N34 [n_self, n_hall] (defScope s34) := ⟨by decide +kernel, by decide +kernel, by decide +kernel, by decide +kernel, by decide +kernel, by decide +kernel, by decide +kernel⟩
theorem ok34 : okSs ⟨N34, defScope s34, fun _ => true, Tb, true, none⟩ f34.body (defBody s34) = true := by decide +kernel
abbrev N35 : List Str := [n_self, n_row, n_word, n_things, n_act, n_e]
theorem sc35 : FnScope N35 [n_self, n_row] (defScope s35) := ⟨by decide +kernel, by decide +kernel, by decide +kernel, by decide +kernel, by decide +kernel, by decide +kernel, by decide +kernel⟩
theorem ok35 : okSs ⟨N35, defScope s35, fun _ => true, Tb, true, none⟩ f35.body (defBody s35) = true := by decide +kernel
abbrev N36 : List Str := [n__law_script, n__law_salt, n__law_cell]
theorem sc36 : FnScope N36 [n__law_script] (defScope s36) := ⟨by decide +kernel, by decide +kernel, by decide +kernel, by decide +kernel, by decide +kernel, by decide +kernel, by decide +kernel⟩
theorem ok36 : okSs ⟨N36, defScope s36, fun _ => true, Tb, true, none⟩ f36.body (defBody s36) = true := by decide +kernel
abbrev N37 : List Str := [n__law_bag, n__law_many, n__law_cell, n__law_digit]
theorem sc37 : FnScope N37 [n__law_bag, n__law_many] (defScope s37) := ⟨by decide +kernel, by decide +kernel, by decide +kernel, by decide +kernel, by decide +kernel, by decide +kernel, by decide +kernel⟩
theorem ok37 : okSs ⟨N37, defScope s37, fun _ => true, Tb, true, none⟩ f37.body (defBody s37) = true := by decide +kernel
abbrev N38 : List Str := [n__law_bag, n__law_row]
theorem sc38 : FnScope N38 [n__law_bag, n__law_row] (defScope s38) := ⟨by decide +kernel, by decide +kernel, by decide +kernel, by decide +kernel, by decide +kernel, by decide +kernel, by decide +kernel⟩
theorem ok38 : okSs ⟨N38, defScope s38, fun _ => true, Tb, true, none⟩ f38.body (defBody s38) = true := by decide +kernel
abbrev N39 : List Str := [n__law_found, n__law_due, n__law_one, n__law_other]
theorem sc39 : FnScope N39 [n__law_found, n__law_due] (defScope s39) := ⟨by decide +kernel, by decide +kernel, by decide +kernel, by decide +kernel, by decide +kernel, by decide +kernel, by decide +kernel⟩
theorem ok39 : okSs ⟨N39, defScope s39, fun _ => true, Tb, true, none⟩ f39.body (defBody s39) = true := by decide +kernel
abbrev N40 : List Str := [n__law_script, n__law_bag, n__law_desk, n__law_odd, n__law_text, n__law_turn, n__law_row]
theorem sc40 : FnScope N40 [n__law_script] (defScope s40) := ⟨by decide +kernel, by decide +kernel, by decide +kernel, by decide +kernel, by decide +kernel, by decide +kernel, by decide +kernel⟩
theorem ok40 : okSs ⟨N40, defScope s40, fun _ => true, Tb, true, none⟩ f40.body (defBody s40) = true := by decide +kernel
end K78
end
section
set_option Elab.async false
set_option linter.all false
set_option maxRecDepth 100000
set_option maxHeartbeats 1000000
/-! Mp: the defs by which laws draw. -/
namespace Mp
open PySem L2
section
variable {st : Sto} {l : Nat} {xs : List D} {n : Int} {d v : D}
theorem seq_at (h : st[l]? = some (.lst xs)) : seqOf st (.ref l) = some xs := by
  show (match st[l]? with
    | some (.lst xs) => some xs
    | _ => none) = _
  rw [h]
theorem item_at (h : st[l]? = some (.lst xs)) (e : L2.atI xs n = some d) : itemD st (.ref l) (.int n) = some d := by
  show (match seqOf st (.ref l) with
    | some xs => atI xs n
    | none => (dctOf st (.ref l)).bind fun kvs => getD' (Sum.inl n) kvs) = _
  rw [seq_at h]
  exact e
theorem seti_at {j : Nat} (h : st[l]? = some (.lst xs)) (e : L2.ixN xs.length n = some j) : setiD (.ref l) (.int n) v st = some (st.set l (.lst (xs.set j v))) := by
  show (match st[l]? with
    | some (.lst xs) => (lstPut xs (.int n) v).map fun ys => st.set l (.lst ys)
    | some (.dk kvs) => (dctPut kvs (.int n) v).map fun ks => st.set l (.dk ks)
    | _ => none) = _
  rw [h]
  show ((ixN xs.length n).map fun j => xs.set j v).map (fun ys => st.set l (.lst ys)) = _
  rw [e]
  rfl
theorem get_set {o o' : Ob} (h : st[l]? = some o) : (st.set l o')[l]? = some o' := List.getElem?_set_self (List.getElem?_eq_some_iff.mp h).1
theorem set_set {o o' : Ob} : (st.set l o).set l o' = st.set l o' := List.set_set ..
end
/-- what is drawn from -/
structure BagOk (cells : List Int) (o : Ob) : Prop where
  it : ∃ i b c : Int, o = .lst [.scr cells, .int i, .int b, .int c] ∧ 0 ≤ i ∧ i ≤ cells.length ∧ 0 ≤ b ∧ 0 ≤ c ∧ c < 2147483647
def pullTail : List PSt := [.ifs (.cmp .gt (.item (.var 0) (.cst (.int 2))) (.cst (.int 0))) [.asg (.nm 3) (.bop .mod (.item (.var 0) (.cst (.int 2))) (.var 1)),
      .seti (.var 0) (.cst (.int 2)) (.bop .fdiv (.item (.var 0) (.cst (.int 2))) (.var 1)),
      .ret (.var 3)] [],
      .seti (.var 0) (.cst (.int 3)) (.bop .mod (.bop .add (.bop .add (.bop .mul (.bop .mod (.bop .mul (.item (.var 0) (.cst (.int 3))) (.item (.var 0) (.cst (.int 3)))) (.cst (.int 2147483629))) (.cst (.int 5))) (.bop .mul (.item (.var 0) (.cst (.int 3))) (.cst (.int 16807)))) (.cst (.int 2531011))) (.cst (.int 2147483647))),
      .ret (.bop .mod (.bop .add (.bop .fdiv (.item (.var 0) (.cst (.int 3))) (.cst (.int 61))) (.bop .mul (.bop .mod (.item (.var 0) (.cst (.int 3))) (.cst (.int 8191))) (.cst (.int 31)))) (.var 1))]
def fPull : Fn := ⟨2, 4, false, [.ifs (.and_ (.cmp .eq (.item (.var 0) (.cst (.int 2))) (.cst (.int 0))) (.cmp .lt (.item (.var 0) (.cst (.int 1))) (.blt .len (.item (.var 0) (.cst (.int 0)))))) [.asg (.nm 2) (.item (.item (.var 0) (.cst (.int 0))) (.item (.var 0) (.cst (.int 1)))),
      .seti (.var 0) (.cst (.int 1)) (.bop .add (.item (.var 0) (.cst (.int 1))) (.cst (.int 1))),
      .ifs (.cmp .ge (.var 2) (.bop .pow (.cst (.int 10)) (.cst (.int 18)))) [.seti (.var 0) (.cst (.int 2)) (.var 2)] [.seti (.var 0) (.cst (.int 3)) (.bop .mod (.bop .add (.bop .add (.bop .mul (.item (.var 0) (.cst (.int 3))) (.cst (.int 48271))) (.bop .mul (.bop .mod (.var 2) (.cst (.int 2147483629))) (.cst (.int 69621)))) (.cst (.int 12345))) (.cst (.int 2147483647)))]] [],
      .ifs (.cmp .gt (.item (.var 0) (.cst (.int 2))) (.cst (.int 0))) [.asg (.nm 3) (.bop .mod (.item (.var 0) (.cst (.int 2))) (.var 1)),
      .seti (.var 0) (.cst (.int 2)) (.bop .fdiv (.item (.var 0) (.cst (.int 2))) (.var 1)),
      .ret (.var 3)] [],
      .seti (.var 0) (.cst (.int 3)) (.bop .mod (.bop .add (.bop .add (.bop .mul (.bop .mod (.bop .mul (.item (.var 0) (.cst (.int 3))) (.item (.var 0) (.cst (.int 3)))) (.cst (.int 2147483629))) (.cst (.int 5))) (.bop .mul (.item (.var 0) (.cst (.int 3))) (.cst (.int 16807)))) (.cst (.int 2531011))) (.cst (.int 2147483647))),
      .ret (.bop .mod (.bop .add (.bop .fdiv (.item (.var 0) (.cst (.int 3))) (.cst (.int 61))) (.bop .mul (.bop .mod (.item (.var 0) (.cst (.int 3))) (.cst (.int 8191))) (.cst (.int 31)))) (.var 1))]⟩
def fPick : Fn := ⟨2, 2, false, [.ret (.item (.var 1) (.call ⟨#[95, 108, 97, 119, 95, 112, 117, 108, 108]⟩ [.var 0, .blt .len (.var 1)] []))]⟩
def fBegin : Fn := ⟨1, 3, false, [.asg (.nm 1) (.cst (.int 977)),
      .fors (.val (.slc (.var 0) (.hole) (.cst (.int 63)))) (.nm 2) [.asg (.nm 1) (.bop .mod (.bop .add (.bop .add (.bop .mul (.var 1) (.cst (.int 1009))) (.bop .mod (.var 2) (.cst (.int 2147483629)))) (.cst (.int 7))) (.cst (.int 2147483629)))],
      .ret (.loc (.lst [.val (.list (.slc (.var 0) (.hole) (.cst (.int 63)))), .cst (.int 0), .cst (.int 0), .var 1]))]⟩
theorem pull_tail {O : Orc} {W : Wld} {cells : List Int} {o0 : Ob} {many : Int} {st : Sto} {l n : Nat} {x2 x3 : Option D} {Q : R D → Sto → Prop} (h0 : st[l]? = some o0) (hb : BagOk cells o0) (hm : 0 < many) (hm2 : many < 1073741824) (q : ∀ d o', 0 ≤ d → d < many → BagOk cells o' → Q (.ok (.int d)) (st.set l o')) :
    wpSs W pullTail O [some (.ref l), some (.int many), x2, x3] st (callQ false n Q) := by
  obtain ⟨i, b, c, rfl, i0, i1, b0, c0, c1⟩ := hb.it
  refine ⟨_, item_at h0 rfl, ?_⟩
  refine ⟨_, rfl, ?_⟩
  refine ⟨_, rfl, ?_⟩
  refine wif_split (fun hb => ?_) fun hb => ?_
  · have hb := of_decide_eq_true hb
    refine ⟨_, item_at h0 rfl, ?_⟩
    refine ⟨_, if_pos hm, ?_⟩
    refine ⟨_, rfl, ?_⟩
    refine ⟨_, item_at h0 rfl, ?_⟩
    refine ⟨_, if_pos ⟨hm, hm2⟩, ?_⟩
    refine ⟨_, seti_at h0 rfl, ?_⟩
    exact ⟨_, _, rfl, q _ _ (Int.emod_nonneg _ (by omega)) (Int.emod_lt_of_pos _ hm) ⟨i, b / many, c, rfl, i0, i1, Int.ediv_nonneg b0 (by omega), c0, c1⟩⟩
  · refine ⟨_, item_at h0 rfl, ?_⟩
    refine ⟨_, item_at h0 rfl, ?_⟩
    refine ⟨_, if_pos (.inl ⟨by omega, by omega⟩), ?_⟩
    refine ⟨_, rfl, ?_⟩
    refine ⟨_, if_pos (.inr ⟨by decide, by decide⟩), ?_⟩
    refine ⟨_, item_at h0 rfl, ?_⟩
    refine ⟨_, if_pos (.inr ⟨by decide, by decide⟩), ?_⟩
    refine ⟨_, rfl, ?_⟩
    refine ⟨_, rfl, ?_⟩
    refine ⟨_, rfl, ?_⟩
    refine ⟨_, seti_at h0 rfl, ?_⟩
    refine ⟨_, item_at (get_set h0) rfl, ?_⟩
    refine ⟨_, rfl, ?_⟩
    refine ⟨_, item_at (get_set h0) rfl, ?_⟩
    refine ⟨_, rfl, ?_⟩
    refine ⟨_, if_pos (.inr ⟨by decide, by decide⟩), ?_⟩
    refine ⟨_, rfl, ?_⟩
    refine ⟨_, if_pos hm, ?_⟩
    exact ⟨_, _, rfl, q _ _ (Int.emod_nonneg _ (by omega)) (Int.emod_lt_of_pos _ hm) ⟨i, b, _, rfl, i0, i1, b0, Int.emod_nonneg _ (by decide), Int.emod_lt_of_pos _ (by decide)⟩⟩
theorem scr_at {st : Sto} {cells : List Int} {i : Int} (h0 : 0 ≤ i) (h1 : i < cells.length) : itemD st (.scr cells) (.int i) = some (.int (cells[i.toNat]'(by omega))) := by
  show atI (cells.map D.int) i = _
  unfold atI ixN
  rw [List.length_map, if_pos h0, if_pos h1]
  show (cells.map D.int)[i.toNat]? = _
  rw [List.getElem?_map, List.getElem?_eq_getElem (by omega)]
  rfl
theorem pull_ok {P : Prg} {f : Str} (hf : P.fn f = some fPull) {k : Nat} {cells : List Int} {o0 : Ob} {many : Int} {st : Sto} {l : Nat} (h0 : st[l]? = some o0) (hb : BagOk cells o0) (hm : 0 < many) (hm2 : many < 1073741824) :
    ∃ d o', callF P (k + 1) f [.ref l, .int many] st = some (.ok (.int d), st.set l o') ∧ 0 ≤ d ∧ d < many ∧ BagOk cells o' := by
  have key : ∃ r s, callF P (k + 1) f [.ref l, .int many] st = some (r, s) ∧ ∃ d o', r = .ok (.int d) ∧ s = st.set l o' ∧ 0 ≤ d ∧ d < many ∧ BagOk cells o' := by
    refine call_run (Q := fun r s => ∃ d o', r = .ok (.int d) ∧ s = st.set l o' ∧ 0 ≤ d ∧ d < many ∧ BagOk cells o') hf rfl ?_
    obtain ⟨i, b, c, rfl, i0, i1, b0, c0, c1⟩ := hb.it
    refine ⟨_, item_at h0 rfl, ?_⟩
    refine ⟨_, rfl, ?_⟩
    refine ⟨_, rfl, ?_⟩
    have tail : ∀ {x2 x3 : Option D}, wpSs P.wld pullTail (orc P (callF P k)) [some (.ref l), some (.int many), x2, x3] st (callQ false st.length fun r s => ∃ d o', r = .ok (.int d) ∧ s = st.set l o' ∧ 0 ≤ d ∧ d < many ∧ BagOk cells o') := fun {x2 x3} =>
      pull_tail h0 hb hm hm2 fun d o' a b z => ⟨d, o', rfl, rfl, a, b, z⟩
    refine wif_split (fun e1 => ?_) fun e1 => ?_
    · have e1 := of_decide_eq_true e1
      subst e1
      refine ⟨_, item_at h0 rfl, ?_⟩
      refine ⟨_, item_at h0 rfl, ?_⟩
      refine ⟨_, rfl, ?_⟩
      refine ⟨_, rfl, ?_⟩
      refine ⟨_, rfl, ?_⟩
      refine wif_split (fun e2 => ?_) fun e2 => ?_
      · have e2 : i < cells.length := by
          have e2 := of_decide_eq_true e2
          simpa using e2
        refine ⟨_, item_at h0 rfl, ?_⟩
        refine ⟨_, item_at h0 rfl, ?_⟩
        refine ⟨_, scr_at i0 e2, ?_⟩
        refine ⟨_, rfl, ?_⟩
        refine ⟨_, item_at h0 rfl, ?_⟩
        refine ⟨_, rfl, ?_⟩
        refine ⟨_, seti_at h0 rfl, ?_⟩
        refine ⟨_, rfl, ?_⟩
        refine ⟨_, rfl, ?_⟩
        refine ⟨_, rfl, ?_⟩
        refine wif_split (fun e3 => ?_) fun e3 => ?_
        · have e3 := of_decide_eq_true e3
          refine ⟨_, seti_at (get_set h0) rfl, ?_⟩
          refine pull_tail (get_set (get_set h0)) (cells := cells) ⟨i + 1, _, c, rfl, by omega, by omega, ?_, c0, c1⟩ hm hm2 fun d o' a b z => ⟨d, o', rfl, ?_, a, b, z⟩
          · refine Int.le_trans ?_ e3
            decide
          · rw [set_set, set_set]
        · refine ⟨_, item_at (get_set h0) rfl, ?_⟩
          refine ⟨_, if_pos (.inr ⟨by decide, by decide⟩), ?_⟩
          refine ⟨_, rfl, ?_⟩
          refine ⟨_, if_pos (.inr ⟨by decide, by decide⟩), ?_⟩
          refine ⟨_, rfl, ?_⟩
          refine ⟨_, rfl, ?_⟩
          refine ⟨_, rfl, ?_⟩
          refine ⟨_, seti_at (get_set h0) rfl, ?_⟩
          refine pull_tail (get_set (get_set h0)) (cells := cells) ⟨i + 1, 0, _, rfl, by omega, by omega, Int.le_refl 0, Int.emod_nonneg _ (by decide), Int.emod_lt_of_pos _ (by decide)⟩ hm hm2 fun d o' a b z => ⟨d, o', rfl, ?_, a, b, z⟩
          rw [set_set, set_set]
      · exact tail
    · refine ⟨_, rfl, ?_⟩
      refine wif_f e1 ?_
      exact tail
  obtain ⟨r, s, e, d, o', rfl, rfl, h⟩ := key
  exact ⟨d, o', e, h⟩
theorem atI_mem {xs : List D} {n : Int} (h0 : 0 ≤ n) (h1 : n < xs.length) : ∃ x, atI xs n = some x ∧ x ∈ xs := by
  have hl : n.toNat < xs.length := by omega
  refine ⟨xs[n.toNat], ?_, List.getElem_mem hl⟩
  unfold atI ixN
  rw [if_pos h0, if_pos h1]
  show xs[n.toNat]? = _
  exact List.getElem?_eq_getElem hl
theorem pick_ok {P : Prg} {f : Str} (hf : P.fn f = some fPick) (hp : P.fn ⟨#[95, 108, 97, 119, 95, 112, 117, 108, 108]⟩ = some fPull) {k : Nat} {cells : List Int} {o0 : Ob} {xs : List D} {st : Sto} {l : Nat} (h0 : st[l]? = some o0) (hb : BagOk cells o0) (hx : xs ≠ []) (hx2 : xs.length < 1073741824) :
    ∃ x o', callF P (k + 2) f [.ref l, .lst xs] st = some (.ok x, st.set l o') ∧ x ∈ xs ∧ BagOk cells o' := by
  have hl : 0 < (xs.length : Int) := by
    cases xs with
    | nil => exact absurd rfl hx
    | cons _ _ => simp only [List.length_cons]; omega
  obtain ⟨d, o', e, d0, d1, hb'⟩ := pull_ok hp (k := k) (many := xs.length) h0 hb hl (by omega)
  obtain ⟨x, hx1, hx2⟩ := atI_mem d0 d1
  have key : ∃ r s, callF P (k + 2) f [.ref l, .lst xs] st = some (r, s) ∧ r = .ok x ∧ s = st.set l o' := by
    refine call_run (Q := fun r s => r = .ok x ∧ s = st.set l o') hf rfl ?_
    refine ⟨_, rfl, ?_⟩
    refine ⟨_, _, e, ?_⟩
    refine ⟨_, hx1, ?_⟩
    exact ⟨_, _, rfl, rfl, rfl⟩
  obtain ⟨r, s, e, rfl, rfl⟩ := key
  exact ⟨x, o', e, hx2, hb'⟩
theorem begin_ok {P : Prg} {f : Str} (hf : P.fn f = some fBegin) {k : Nat} {ns : List Int} {st : Sto} :
    ∃ cells o, callF P (k + 1) f [.scr ns] st = some (.ok (.ref st.length), st ++ [o]) ∧ BagOk cells o := by
  let cells := cutD ns none (some 63)
  have key : ∃ r s, callF P (k + 1) f [.scr ns] st = some (r, s) ∧ ∃ o, r = .ok (.ref st.length) ∧ s = st ++ [o] ∧ BagOk cells o := by
    refine call_run (Q := fun r s => ∃ o, r = .ok (.ref st.length) ∧ s = st ++ [o] ∧ BagOk cells o) hf rfl ?_
    refine ⟨_, rfl, ?_⟩
    refine ⟨63, rfl, ?_⟩
    refine ⟨.scr cells, rfl, ?_⟩
    refine ⟨cells.map D.int, rfl, ?_⟩
    refine for_inv (I := fun _ env s => s = st ∧ ∃ salt x, env = [some (.scr ns), some (.int salt), x] ∧ 0 ≤ salt ∧ salt < 2147483629) ⟨rfl, 977, none, rfl, by decide, by decide⟩ (fun _ _ _ _ => rfl) ?_ ?_
    · rintro i x env s hx ⟨rfl, salt, y, rfl, h0, h1⟩
      rw [List.getElem?_map] at hx
      obtain ⟨v, _, rfl⟩ := Option.map_eq_some_iff.mp hx
      refine forT_ok rfl ?_
      refine ⟨_, if_pos (.inr ⟨by decide, by decide⟩), ?_⟩
      refine ⟨_, rfl, ?_⟩
      refine ⟨_, rfl, ?_⟩
      refine ⟨_, rfl, ?_⟩
      refine ⟨_, rfl, ?_⟩
      refine ⟨_, rfl, ?_⟩
      exact ⟨rfl, _, _, rfl, Int.emod_nonneg _ (by decide), Int.emod_lt_of_pos _ (by decide)⟩
    · rintro env s ⟨rfl, salt, y, rfl, h0, h1⟩
      refine ⟨63, rfl, ?_⟩
      refine ⟨.scr cells, rfl, ?_⟩
      refine ⟨.scr cells, rfl, ?_⟩
      exact ⟨_, _, rfl, _, rfl, rfl, 0, 0, salt, rfl, by decide, by omega, by decide, h0, by omega⟩
  obtain ⟨r, s, e, o, rfl, rfl, h⟩ := key
  exact ⟨cells, o, e, h⟩
end Mp
end
section
set_option Elab.async false
set_option maxRecDepth 100000
set_option maxHeartbeats 4000000
set_option linter.all false
namespace K78
open PySem Mp L2
def desk : Ob := .ins ⟨#[68, 101, 115, 107]⟩ [(⟨#[104, 97, 108, 108]⟩, .ref 2)]
def hall : Ob := .ins ⟨#[72, 97, 108, 108]⟩ [(⟨#[110, 111, 119]⟩, .obj ⟨#[83, 116, 97, 110, 100]⟩ [(⟨#[114, 111, 119, 115]⟩, .lst [.tup [.int 1, .str ⟨#[97, 98]⟩, .str ⟨#[98, 97]⟩]]), (⟨#[110, 117, 109, 98, 101, 114, 95, 110, 111, 119]⟩, .int 2), (⟨#[107, 110, 111, 119, 110]⟩, .dct [(.inr ⟨#[102]⟩, .str ⟨#[97, 66]⟩), (.inr ⟨#[103]⟩, .str ⟨#[]⟩)]), (⟨#[115, 104, 101, 97, 102]⟩, .dct [])]), (⟨#[112, 97, 115, 116, 95, 114, 111, 119, 115]⟩, .lst [.obj ⟨#[83, 116, 97, 110, 100]⟩ [(⟨#[114, 111, 119, 115]⟩, .lst []), (⟨#[110, 117, 109, 98, 101, 114, 95, 110, 111, 119]⟩, .int 1), (⟨#[107, 110, 111, 119, 110]⟩, .dct []), (⟨#[115, 104, 101, 97, 102]⟩, .dct [])], .obj ⟨#[83, 116, 97, 110, 100]⟩ [(⟨#[114, 111, 119, 115]⟩, .lst [.tup [.int 1, .str ⟨#[97, 98]⟩, .str ⟨#[98, 97]⟩]]), (⟨#[110, 117, 109, 98, 101, 114, 95, 110, 111, 119]⟩, .int 2), (⟨#[107, 110, 111, 119, 110]⟩, .dct []), (⟨#[115, 104, 101, 97, 102]⟩, .dct [])], .obj ⟨#[83, 116, 97, 110, 100]⟩ [(⟨#[114, 111, 119, 115]⟩, .lst [.tup [.int 1, .str ⟨#[97, 98]⟩, .str ⟨#[98, 97]⟩]]), (⟨#[110, 117, 109, 98, 101, 114, 95, 110, 111, 119]⟩, .int 2), (⟨#[107, 110, 111, 119, 110]⟩, .dct [(.inr ⟨#[102]⟩, .str ⟨#[97, 66]⟩)]), (⟨#[115, 104, 101, 97, 102]⟩, .dct [])]]), (⟨#[103, 111, 110, 101, 95, 114, 111, 119, 115]⟩, .lst []), (⟨#[107, 101, 112, 116]⟩, .dct []), (⟨#[99, 111, 117, 110, 116]⟩, .int 0), (⟨#[101, 120, 116, 114, 97]⟩, .lst [])]
def S (o : Ob) : Sto := [o, desk, hall]
def bag (cells : List Int) (i b c : Int) : Ob := .lst [.scr cells, .int i, .int b, .int c]
def O : Orc := orc P (callF P 13)
def body : List PSt := f40.body
def odd : List D := [.str ⟨#[]⟩, .str ⟨#[32]⟩, .str ⟨#[108, 105, 107, 101]⟩, .str ⟨#[108, 105, 107, 101, 32, 97]⟩, .str ⟨#[108, 105, 107, 101, 32, 97, 32, 98, 32, 99]⟩, .str ⟨#[115, 116, 114, 105, 107, 101]⟩, .str ⟨#[115, 116, 114, 105, 107, 101, 32, 120]⟩, .str ⟨#[115, 116, 114, 105, 107, 101, 32, 48, 49]⟩, .str ⟨#[115, 116, 114, 105, 107, 101, 32, 45, 49]⟩, .str ⟨#[115, 116, 114, 105, 107, 101, 32, 49, 32, 49]⟩, .str ⟨#[119, 111, 114, 100, 32, 102]⟩, .str ⟨#[119, 111, 114, 100, 32, 102, 32, 97, 32, 98]⟩, .str ⟨#[112, 117, 116, 32, 102, 32, 97]⟩, .str ⟨#[102, 111, 114, 103, 101, 116]⟩, .str ⟨#[102, 111, 114, 103, 101, 116, 32, 102, 32, 103]⟩, .str ⟨#[115, 104, 101, 108, 118, 101, 32, 112, 32, 102]⟩, .str ⟨#[115, 104, 101, 108, 118, 101, 32, 112, 32, 102, 32, 103, 32, 104]⟩, .str ⟨#[117, 110, 115, 104, 101, 108, 118, 101]⟩, .str ⟨#[117, 110, 100, 111, 32, 49]⟩, .str ⟨#[114, 101, 100, 111, 32, 110, 111, 119]⟩, .str ⟨#[97, 115, 107, 32, 102]⟩, .str ⟨#[97, 115, 107, 32, 102, 32, 103, 32, 104]⟩, .str ⟨#[117, 110, 100, 101, 114, 32, 102]⟩, .str ⟨#[112, 108, 97, 105, 110]⟩, .str ⟨#[112, 108, 97, 105, 110, 32, 102, 32, 102]⟩, .str ⟨#[115, 104, 111, 114, 116]⟩, .str ⟨#[108, 105, 110, 101, 115, 32, 49]⟩, .str ⟨#[119, 111, 114, 100, 115, 32, 102]⟩, .str ⟨#[115, 104, 101, 108, 102, 32, 112]⟩, .str ⟨#[108, 97, 105, 100, 32, 48]⟩, .str ⟨#[85, 110, 100, 111]⟩, .str ⟨#[117, 110, 100, 111, 32]⟩, .str ⟨#[32, 117, 110, 100, 111]⟩, .str ⟨#[97, 115, 107, 32, 32, 102, 32, 103]⟩, .str ⟨#[97, 115, 107, 32, 102, 32, 32, 103]⟩, .str ⟨#[97, 115, 107, 32, 102, 32, 103, 32]⟩, .str ⟨#[119, 104, 97, 116]⟩, .str ⟨#[112, 97, 103, 101]⟩, .str ⟨#[115, 116, 114, 105, 107, 101, 32, 49, 49, 49, 49, 49, 49, 49, 49, 49, 49]⟩, .str ⟨#[108, 105, 107, 101, 32, 32, 97, 98]⟩, .str ⟨#[119, 111, 114, 100, 32, 32, 102, 32, 97]⟩, .str ⟨#[115, 116, 114, 105, 107, 101, 32, 43, 49]⟩, .str ⟨#[115, 116, 114, 105, 107, 101, 32, 49, 46, 48]⟩, .str ⟨#[76, 73, 75, 69, 32, 97, 32, 98]⟩, .str ⟨#[106, 117, 100, 103, 101, 32, 102, 32, 103]⟩, .str ⟨#[108, 105, 107, 101, 32, 97, 32, 32, 98]⟩]
def text : D := .str ⟨#[99, 111, 109, 105, 110, 103, 32, 50, 10, 108, 105, 107, 101, 32, 49, 32, 97, 98, 32, 98, 97, 10, 119, 111, 114, 100, 32, 102, 32, 97, 66, 10, 119, 111, 114, 100, 32, 103, 32, 45, 10]⟩
def what : D := .str ⟨#[119, 104, 97, 116]⟩
theorem fn_pull : P.fn ⟨#[95, 108, 97, 119, 95, 112, 117, 108, 108]⟩ = some fPull := by kernel_rfl
theorem fn_pick : P.fn n__law_pick = some fPick := by kernel_rfl
theorem fn_begin : P.fn n__law_begin = some fBegin := by kernel_rfl
theorem fn_law : P.fn n_law = some f40 := by kernel_rfl
/-- what stands ahead of the loop -/
theorem init (ns cells : List Int) (i b c : Int) : exSs O P.wld ((body.drop 1).take 8) [some (.scr ns), some (.ref 0), none, none, none, none, none] [bag cells i b c] = some (.next [some (.scr ns), some (.ref 0), some (.ref 1), some (.lst odd), some text, none, none], S (bag cells i b c)) := by kernel_rfl
/-- a row with something ahead or behind -/
def vary : D → List D
  | .str z => [.str (⟨#[32]⟩ ++ z), .str (z ++ ⟨#[32]⟩), .str (⟨#[120]⟩ ++ z)]
  | _ => []
def rows : List D := odd ++ odd.flatMap vary
theorem says (cells : List Int) (i b c : Int) : rows.map (fun r => callF P 13 (n_Desk ++ "." ++ n_say) [.ref 1, r] (S (bag cells i b c))) = rows.map (fun _ => some (.ok what, S (bag cells i b c))) := by kernel_rfl
theorem say_ok {cells : List Int} {o : Ob} {r : D} (hb : BagOk cells o) (h : r ∈ rows) : callF P 13 (n_Desk ++ "." ++ n_say) [.ref 1, r] (S o) = some (.ok what, S o) := by
  obtain ⟨i, b, c, rfl, _⟩ := hb.it
  obtain ⟨n, hn, e⟩ := List.mem_iff_getElem.mp h
  have q := congrArg (·[n]?) (says cells i b c)
  simp only [List.getElem?_map, List.getElem?_eq_getElem hn, Option.map_some, e] at q
  exact Option.some.inj q
theorem same_what (st : Sto) : callF P 13 n__law_same [what, what] st = some (.ok (.bl true), st) := by kernel_rfl
def loopOf : Option PSt → List PSt
  | some (.fors _ _ b) => b
  | _ => []
def loop : List PSt := loopOf body[9]?
theorem asks (ns cells : List Int) (i b c : Int) (x5 x6 : Option D) : exSs O P.wld (loop.drop 3) [some (.scr ns), some (.ref 0), some (.ref 1), some (.lst odd), some text, x5, x6] (S (bag cells i b c)) = some (.next [some (.scr ns), some (.ref 0), some (.ref 1), some (.lst odd), some text, x5, x6], S (bag cells i b c)) := by kernel_rfl
theorem last (ns cells : List Int) (i b c : Int) (x5 x6 : Option D) : flT (exSs O P.wld (body.drop 10) [some (.scr ns), some (.ref 0), some (.ref 1), some (.lst odd), some text, x5, x6] (S (bag cells i b c))) = true := by kernel_rfl
theorem odd_len : ∀ x ∈ odd, ∃ z, x = .str z ∧ z.length ≤ 100 := by
  have h : odd.all (fun x => match x with
    | .str z => decide (z.length ≤ 100)
    | _ => false) = true := by decide +kernel
  intro x hx
  have h2 := List.all_eq_true.mp h x hx
  split at h2
  · rename_i z
    exact ⟨z, rfl, of_decide_eq_true h2⟩
  · cases h2
theorem vary_mem {z : Str} {x : D} (h : D.str z ∈ odd) (hx : x ∈ [D.str (⟨#[32]⟩ ++ z), .str (z ++ ⟨#[32]⟩), .str (⟨#[120]⟩ ++ z)]) : x ∈ rows :=
  List.mem_append_right _ (List.mem_flatMap.mpr ⟨.str z, h, hx⟩)
theorem law_ok (ns : List Int) : ∃ st, callF P 14 n_law [.scr ns] [] = some (.ok (.bl true), st) := by
  obtain ⟨cells, o, e1, hb⟩ := begin_ok fn_begin (k := 12) (ns := ns) (st := [])
  have key : ∃ r s, callF P 14 n_law [.scr ns] [] = some (r, s) ∧ r = .ok (.bl true) := by
    refine call_runR (Q := fun r s => r = .ok (.bl true)) fn_law rfl ?_
    refine rnss_cons (wpS_ok _ ?_)
    refine ⟨_, _, e1, ?_⟩
    refine ⟨_, rfl, ?_⟩
    obtain ⟨i, b, c, rfl, hbb⟩ := hb.it
    refine rnss_app (ps := (body.drop 1).take 8) (init ns cells i b c) ?_
    refine rnss_cons (wpS_ok _ ?_)
    refine ⟨_, rfl, ?_⟩
    refine for_inv (I := fun _ env s => ∃ o x5 x6, BagOk cells o ∧ s = S o ∧ env = [some (.scr ns), some (.ref 0), some (.ref 1), some (.lst odd), some text, x5, x6]) ⟨bag cells i b c, none, none, hb, rfl, rfl⟩ (fun _ _ _ _ => rfl) ?_ ?_
    · rintro n x env s hx ⟨o, x5, x6, hb, rfl, rfl⟩
      refine forT_okR rfl ?_
      obtain ⟨r, o1, e1, hr, hb1⟩ := pick_ok fn_pick fn_pull (k := 11) (st := S o) (l := 0) (xs := odd) rfl hb (by decide) (by decide)
      refine rnss_cons (wpS_ok _ ?_)
      refine ⟨_, _, e1, ?_⟩
      refine ⟨_, rfl, ?_⟩
      have rest : ∀ {o : Ob} {r : D} {Q : Fl → Sto → Prop}, BagOk cells o → r ∈ rows → (∀ o x5 x6, BagOk cells o → Q (.next [some (.scr ns), some (.ref 0), some (.ref 1), some (.lst odd), some text, x5, x6]) (S o)) → RnS (exSs O P.wld (loop.drop 2) [some (.scr ns), some (.ref 0), some (.ref 1), some (.lst odd), some text, some x, some r]) (S o) Q := fun {o r Q} hb hr q => by
        refine rnss_cons (wpS_ok _ ?_)
        refine ⟨rfl, ?_⟩
        refine ⟨_, _, say_ok hb hr, ?_⟩
        refine ⟨_, _, same_what _, ?_⟩
        refine ⟨_, rfl, ?_⟩
        refine ⟨_, rfl, ?_⟩
        obtain ⟨i, b, c, rfl, hbb⟩ := hb.it
        refine ⟨_, _, asks ns cells i b c _ _, ?_⟩
        exact q _ _ _ hb
      obtain ⟨d, o2, e2, d0, d1, hb2⟩ := pull_ok fn_pull (k := 12) (st := S o1) (l := 0) (many := 4) rfl hb1 (by decide) (by decide)
      refine rnss_cons (wpS_ok _ ?_)
      refine ⟨_, _, e2, ?_⟩
      refine ⟨_, rfl, ?_⟩
      refine ⟨_, rfl, ?_⟩
      refine wif_split (fun _ => ?_) fun _ => ?_
      · obtain ⟨z, rfl, hz⟩ := odd_len r hr
        refine ⟨_, if_pos (by show 1 + z.length ≤ _; omega), ?_⟩
        refine ⟨_, if_pos (by show z.length + 1 ≤ _; omega), ?_⟩
        refine ⟨_, if_pos (by show 1 + z.length ≤ _; omega), ?_⟩
        obtain ⟨d, o3, e3, d0, d1, hb3⟩ := pull_ok fn_pull (k := 12) (st := S o2) (l := 0) (many := 3) rfl hb2 (by decide) (by decide)
        refine ⟨_, _, e3, ?_⟩
        obtain ⟨y, hy1, hy2⟩ := atI_mem (xs := [D.str (⟨#[32]⟩ ++ z), .str (z ++ ⟨#[32]⟩), .str (⟨#[120]⟩ ++ z)]) d0 d1
        refine ⟨y, hy1, ?_⟩
        refine ⟨_, rfl, ?_⟩
        exact rest hb3 (vary_mem hr hy2) fun o x5 x6 hb => ⟨o, x5, x6, hb, rfl, rfl⟩
      · exact rest hb2 (List.mem_append_left _ hr) fun o x5 x6 hb => ⟨o, x5, x6, hb, rfl, rfl⟩
    · rintro env s ⟨o, x5, x6, hb, rfl, rfl⟩
      obtain ⟨i, b, c, rfl, hbb⟩ := hb.it
      obtain ⟨s', e⟩ := flT_ok (last ns cells i b c x5 x6)
      exact ⟨_, _, e, _, _, rfl, rfl⟩
  obtain ⟨r, s, e, rfl⟩ := key
  exact ⟨s, e⟩
end K78
end
set_option Elab.async false
set_option linter.all false
set_option maxRecDepth 100000
set_option maxHeartbeats 0
namespace K78
open PySem PySem.Spec PyProof.Rows L2 Mp PySem.MpX
section
variable {pr : Program} {w : World} {K : PySem.W.Frag} {mg : Str → Option Value} {base h : Heap}
theorem defsAll (c : SaysM [] fnD ts ex w K) : AllD (DefF pr w K (tb.G K w) tb.P Tb) tb.fns := by
  obtain ⟨fd0, F0⟩ := c.t.d.def_ 0 (d := dd0) rfl
  have F0 : FunD K (⟨#[105, 115, 95, 119, 111, 114, 100]⟩ : Str) (⟨#[105, 115, 95, 119, 111, 114, 100]⟩ : Str) (defArgs s0) (defBody s0) (defScope s0) [] [] (He.fAd K ((⟨#[105, 115, 95, 119, 111, 114, 100]⟩ : Str), none)) fd0 := F0
  have D0 : DefF pr w K (tb.G K w) tb.P Tb n_is_word f0 := DefF.of (t := tb) (N := N0) rfl F0 sc0 rfl rfl ok0 rfl (show tb.miss.lookup n_is_word = some [[]] by kernel_rfl) ⟨⟨[], [], FunD.bindsN F0 (fun _ _ _ _ _ _ us hl => match us, hl with | [_], _ => rfl), .nil, fun _ _ => rfl⟩, trivial⟩
  obtain ⟨fd1, F1⟩ := c.t.d.def_ 1 (d := dd1) rfl
  have F1 : FunD K (⟨#[110, 101, 101, 100, 95, 119, 111, 114, 100]⟩ : Str) (⟨#[110, 101, 101, 100, 95, 119, 111, 114, 100]⟩ : Str) (defArgs s1) (defBody s1) (defScope s1) [] [] (He.fAd K ((⟨#[110, 101, 101, 100, 95, 119, 111, 114, 100]⟩ : Str), none)) fd1 := F1
  have D1 : DefF pr w K (tb.G K w) tb.P Tb n_need_word f1 := DefF.of (t := tb) (N := N1) rfl F1 sc1 rfl rfl ok1 rfl (show tb.miss.lookup n_need_word = some [[]] by kernel_rfl) ⟨⟨[], [], FunD.bindsN F1 (fun _ _ _ _ _ _ us hl => match us, hl with | [_], _ => rfl), .nil, fun _ _ => rfl⟩, trivial⟩
  obtain ⟨fd2, F2⟩ := c.t.d.def_ 2 (d := dd2) rfl
  have F2 : FunD K (⟨#[95, 95, 105, 110, 105, 116, 95, 95]⟩ : Str) (⟨#[83, 116, 97, 110, 100, 46, 95, 95, 105, 110, 105, 116, 95, 95]⟩ : Str) (defArgs s2) (defBody s2) (defScope s2) [] [] (He.fAd K ((⟨#[83, 116, 97, 110, 100]⟩ : Str), some (⟨#[95, 95, 105, 110, 105, 116, 95, 95]⟩ : Str))) fd2 := F2
  have D2 : DefF pr w K (tb.G K w) tb.P Tb n_Stand_2e___init__ f2 := DefF.of (t := tb) (N := N2) rfl F2 sc2 rfl rfl ok2 rfl (show tb.miss.lookup n_Stand_2e___init__ = some [[]] by kernel_rfl) ⟨⟨[], [], FunD.bindsN F2 (fun _ _ _ _ _ _ us hl => match us, hl with | [_, _, _, _, _], _ => rfl), .nil, fun _ _ => rfl⟩, trivial⟩
  obtain ⟨fd3, F3⟩ := c.t.d.def_ 3 (d := dd3) rfl
  have F3 : FunD K (⟨#[119, 105, 116, 104, 95, 108, 105, 110, 101, 115]⟩ : Str) (⟨#[83, 116, 97, 110, 100, 46, 119, 105, 116, 104, 95, 108, 105, 110, 101, 115]⟩ : Str) (defArgs s3) (defBody s3) (defScope s3) [] [] (He.fAd K ((⟨#[83, 116, 97, 110, 100]⟩ : Str), some (⟨#[119, 105, 116, 104, 95, 108, 105, 110, 101, 115]⟩ : Str))) fd3 := F3
  have D3 : DefF pr w K (tb.G K w) tb.P Tb n_Stand_2e_with_lines f3 := DefF.of (t := tb) (N := N3) rfl F3 sc3 rfl rfl ok3 rfl (show tb.miss.lookup n_Stand_2e_with_lines = some [[]] by kernel_rfl) ⟨⟨[], [], FunD.bindsN F3 (fun _ _ _ _ _ _ us hl => match us, hl with | [_, _, _], _ => rfl), .nil, fun _ _ => rfl⟩, trivial⟩
  obtain ⟨fd4, F4⟩ := c.t.d.def_ 4 (d := dd4) rfl
  have F4 : FunD K (⟨#[119, 105, 116, 104, 95, 107, 110, 111, 119, 110]⟩ : Str) (⟨#[83, 116, 97, 110, 100, 46, 119, 105, 116, 104, 95, 107, 110, 111, 119, 110]⟩ : Str) (defArgs s4) (defBody s4) (defScope s4) [] [] (He.fAd K ((⟨#[83, 116, 97, 110, 100]⟩ : Str), some (⟨#[119, 105, 116, 104, 95, 107, 110, 111, 119, 110]⟩ : Str))) fd4 := F4
  have D4 : DefF pr w K (tb.G K w) tb.P Tb n_Stand_2e_with_known f4 := DefF.of (t := tb) (N := N4) rfl F4 sc4 rfl rfl ok4 rfl (show tb.miss.lookup n_Stand_2e_with_known = some [[]] by kernel_rfl) ⟨⟨[], [], FunD.bindsN F4 (fun _ _ _ _ _ _ us hl => match us, hl with | [_, _], _ => rfl), .nil, fun _ _ => rfl⟩, trivial⟩
  obtain ⟨fd5, F5⟩ := c.t.d.def_ 5 (d := dd5) rfl
  have F5 : FunD K (⟨#[119, 105, 116, 104, 95, 115, 104, 101, 97, 102]⟩ : Str) (⟨#[83, 116, 97, 110, 100, 46, 119, 105, 116, 104, 95, 115, 104, 101, 97, 102]⟩ : Str) (defArgs s5) (defBody s5) (defScope s5) [] [] (He.fAd K ((⟨#[83, 116, 97, 110, 100]⟩ : Str), some (⟨#[119, 105, 116, 104, 95, 115, 104, 101, 97, 102]⟩ : Str))) fd5 := F5
  have D5 : DefF pr w K (tb.G K w) tb.P Tb n_Stand_2e_with_sheaf f5 := DefF.of (t := tb) (N := N5) rfl F5 sc5 rfl rfl ok5 rfl (show tb.miss.lookup n_Stand_2e_with_sheaf = some [[]] by kernel_rfl) ⟨⟨[], [], FunD.bindsN F5 (fun _ _ _ _ _ _ us hl => match us, hl with | [_, _], _ => rfl), .nil, fun _ _ => rfl⟩, trivial⟩
  obtain ⟨fd6, F6⟩ := c.t.d.def_ 6 (d := dd6) rfl
  have F6 : FunD K (⟨#[98, 97, 114, 101, 95, 115, 116, 97, 110, 100]⟩ : Str) (⟨#[98, 97, 114, 101, 95, 115, 116, 97, 110, 100]⟩ : Str) (defArgs s6) (defBody s6) (defScope s6) [] [] (He.fAd K ((⟨#[98, 97, 114, 101, 95, 115, 116, 97, 110, 100]⟩ : Str), none)) fd6 := F6
  have D6 : DefF pr w K (tb.G K w) tb.P Tb n_bare_stand f6 := DefF.of (t := tb) (N := N6) rfl F6 sc6 rfl rfl ok6 rfl (show tb.miss.lookup n_bare_stand = some [[]] by kernel_rfl) ⟨⟨[], [], FunD.bindsN F6 (fun _ _ _ _ _ _ us hl => match us, hl with | [], _ => rfl), .nil, fun _ _ => rfl⟩, trivial⟩
  obtain ⟨fd7, F7⟩ := c.t.d.def_ 7 (d := dd7) rfl
  have F7 : FunD K (⟨#[108, 105, 107, 101]⟩ : Str) (⟨#[108, 105, 107, 101]⟩ : Str) (defArgs s7) (defBody s7) (defScope s7) [] [] (He.fAd K ((⟨#[108, 105, 107, 101]⟩ : Str), none)) fd7 := F7
  have D7 : DefF pr w K (tb.G K w) tb.P Tb n_like f7 := DefF.of (t := tb) (N := N7) rfl F7 sc7 rfl rfl ok7 rfl (show tb.miss.lookup n_like = some [[]] by kernel_rfl) ⟨⟨[], [], FunD.bindsN F7 (fun _ _ _ _ _ _ us hl => match us, hl with | [_, _, _], _ => rfl), .nil, fun _ _ => rfl⟩, trivial⟩
  obtain ⟨fd8, F8⟩ := c.t.d.def_ 8 (d := dd8) rfl
  have F8 : FunD K (⟨#[115, 116, 114, 105, 107, 101]⟩ : Str) (⟨#[115, 116, 114, 105, 107, 101]⟩ : Str) (defArgs s8) (defBody s8) (defScope s8) [] [] (He.fAd K ((⟨#[115, 116, 114, 105, 107, 101]⟩ : Str), none)) fd8 := F8
  have D8 : DefF pr w K (tb.G K w) tb.P Tb n_strike f8 := DefF.of (t := tb) (N := N8) rfl F8 sc8 rfl rfl ok8 rfl (show tb.miss.lookup n_strike = some [[]] by kernel_rfl) ⟨⟨[], [], FunD.bindsN F8 (fun _ _ _ _ _ _ us hl => match us, hl with | [_, _], _ => rfl), .nil, fun _ _ => rfl⟩, trivial⟩
  obtain ⟨fd9, F9⟩ := c.t.d.def_ 9 (d := dd9) rfl
  have F9 : FunD K (⟨#[105, 115, 95, 110, 97, 109, 101]⟩ : Str) (⟨#[105, 115, 95, 110, 97, 109, 101]⟩ : Str) (defArgs s9) (defBody s9) (defScope s9) [] [] (He.fAd K ((⟨#[105, 115, 95, 110, 97, 109, 101]⟩ : Str), none)) fd9 := F9
  have D9 : DefF pr w K (tb.G K w) tb.P Tb n_is_name f9 := DefF.of (t := tb) (N := N9) rfl F9 sc9 rfl rfl ok9 rfl (show tb.miss.lookup n_is_name = some [[]] by kernel_rfl) ⟨⟨[], [], FunD.bindsN F9 (fun _ _ _ _ _ _ us hl => match us, hl with | [_], _ => rfl), .nil, fun _ _ => rfl⟩, trivial⟩
  obtain ⟨fd10, F10⟩ := c.t.d.def_ 10 (d := dd10) rfl
  have F10 : FunD K (⟨#[110, 101, 101, 100, 95, 110, 97, 109, 101]⟩ : Str) (⟨#[110, 101, 101, 100, 95, 110, 97, 109, 101]⟩ : Str) (defArgs s10) (defBody s10) (defScope s10) [] [] (He.fAd K ((⟨#[110, 101, 101, 100, 95, 110, 97, 109, 101]⟩ : Str), none)) fd10 := F10
  have D10 : DefF pr w K (tb.G K w) tb.P Tb n_need_name f10 := DefF.of (t := tb) (N := N10) rfl F10 sc10 rfl rfl ok10 rfl (show tb.miss.lookup n_need_name = some [[]] by kernel_rfl) ⟨⟨[], [], FunD.bindsN F10 (fun _ _ _ _ _ _ us hl => match us, hl with | [_], _ => rfl), .nil, fun _ _ => rfl⟩, trivial⟩
  obtain ⟨fd11, F11⟩ := c.t.d.def_ 11 (d := dd11) rfl
  have F11 : FunD K (⟨#[112, 117, 116]⟩ : Str) (⟨#[112, 117, 116]⟩ : Str) (defArgs s11) (defBody s11) (defScope s11) [] [] (He.fAd K ((⟨#[112, 117, 116]⟩ : Str), none)) fd11 := F11
  have D11 : DefF pr w K (tb.G K w) tb.P Tb n_put f11 := DefF.of (t := tb) (N := N11) rfl F11 sc11 rfl rfl ok11 rfl (show tb.miss.lookup n_put = some [[]] by kernel_rfl) ⟨⟨[], [], FunD.bindsN F11 (fun _ _ _ _ _ _ us hl => match us, hl with | [_, _, _], _ => rfl), .nil, fun _ _ => rfl⟩, trivial⟩
  obtain ⟨fd12, F12⟩ := c.t.d.def_ 12 (d := dd12) rfl
  have F12 : FunD K (⟨#[100, 111, 110, 101]⟩ : Str) (⟨#[100, 111, 110, 101]⟩ : Str) (defArgs s12) (defBody s12) (defScope s12) [] [] (He.fAd K ((⟨#[100, 111, 110, 101]⟩ : Str), none)) fd12 := F12
  have D12 : DefF pr w K (tb.G K w) tb.P Tb n_done f12 := DefF.of (t := tb) (N := N12) rfl F12 sc12 rfl rfl ok12 rfl (show tb.miss.lookup n_done = some [[]] by kernel_rfl) ⟨⟨[], [], FunD.bindsN F12 (fun _ _ _ _ _ _ us hl => match us, hl with | [_, _, _], _ => rfl), .nil, fun _ _ => rfl⟩, trivial⟩
  obtain ⟨fd13, F13⟩ := c.t.d.def_ 13 (d := dd13) rfl
  have F13 : FunD K (⟨#[95, 95, 105, 110, 105, 116, 95, 95]⟩ : Str) (⟨#[72, 97, 108, 108, 46, 95, 95, 105, 110, 105, 116, 95, 95]⟩ : Str) (defArgs s13) (defBody s13) (defScope s13) [] [] (He.fAd K ((⟨#[72, 97, 108, 108]⟩ : Str), some (⟨#[95, 95, 105, 110, 105, 116, 95, 95]⟩ : Str))) fd13 := F13
  have D13 : DefF pr w K (tb.G K w) tb.P Tb n_Hall_2e___init__ f13 := DefF.of (t := tb) (N := N13) rfl F13 sc13 rfl rfl ok13 rfl (show tb.miss.lookup n_Hall_2e___init__ = some [[]] by kernel_rfl) ⟨⟨[], [], FunD.bindsN F13 (fun _ _ _ _ _ _ us hl => match us, hl with | [_], _ => rfl), .nil, fun _ _ => rfl⟩, trivial⟩
  obtain ⟨fd14, F14⟩ := c.t.d.def_ 14 (d := dd14) rfl
  have F14 : FunD K (⟨#[116, 117, 114, 110, 95, 116, 111]⟩ : Str) (⟨#[72, 97, 108, 108, 46, 116, 117, 114, 110, 95, 116, 111]⟩ : Str) (defArgs s14) (defBody s14) (defScope s14) [] [] (He.fAd K ((⟨#[72, 97, 108, 108]⟩ : Str), some (⟨#[116, 117, 114, 110, 95, 116, 111]⟩ : Str))) fd14 := F14
  have D14 : DefF pr w K (tb.G K w) tb.P Tb n_Hall_2e_turn_to f14 := DefF.of (t := tb) (N := N14) rfl F14 sc14 rfl rfl ok14 rfl (show tb.miss.lookup n_Hall_2e_turn_to = some [[]] by kernel_rfl) ⟨⟨[], [], FunD.bindsN F14 (fun _ _ _ _ _ _ us hl => match us, hl with | [_, _], _ => rfl), .nil, fun _ _ => rfl⟩, trivial⟩
  obtain ⟨fd15, F15⟩ := c.t.d.def_ 15 (d := dd15) rfl
  have F15 : FunD K (⟨#[115, 116, 111, 111, 100]⟩ : Str) (⟨#[72, 97, 108, 108, 46, 115, 116, 111, 111, 100]⟩ : Str) (defArgs s15) (defBody s15) (defScope s15) [] [] (He.fAd K ((⟨#[72, 97, 108, 108]⟩ : Str), some (⟨#[115, 116, 111, 111, 100]⟩ : Str))) fd15 := F15
  have D15 : DefF pr w K (tb.G K w) tb.P Tb n_Hall_2e_stood f15 := DefF.of (t := tb) (N := N15) rfl F15 sc15 rfl rfl ok15 rfl (show tb.miss.lookup n_Hall_2e_stood = some [[]] by kernel_rfl) ⟨⟨[], [], FunD.bindsN F15 (fun _ _ _ _ _ _ us hl => match us, hl with | [_, _, _], _ => rfl), .nil, fun _ _ => rfl⟩, trivial⟩
  obtain ⟨fd16, F16⟩ := c.t.d.def_ 16 (d := dd16) rfl
  have F16 : FunD K (⟨#[100, 111]⟩ : Str) (⟨#[72, 97, 108, 108, 46, 100, 111]⟩ : Str) (defArgs s16) (defBody s16) (defScope s16) [(V.int 6)] [] (He.fAd K ((⟨#[72, 97, 108, 108]⟩ : Str), some (⟨#[100, 111]⟩ : Str))) fd16 := F16
  have D16 : DefF pr w K (tb.G K w) tb.P Tb n_Hall_2e_do f16 := DefF.of (t := tb) (N := N16) rfl F16 sc16 rfl rfl ok16 rfl (show tb.miss.lookup n_Hall_2e_do = some [[.int 6]] by kernel_rfl) ⟨(let ⟨us, v, b⟩ := FunD.binds1 F16 2 0 (List.cons_ne_nil _ _) rfl (fun _ _ _ _ _ _ _ us its h1 h2 => match us, its, h1, h2 with | [_, _], [_], _, _ => ⟨_, rfl, rfl⟩); ⟨us, _, b, v, fun _ _ => ⟨_, _, rfl, rfl, rfl⟩⟩), trivial⟩
  obtain ⟨fd17, F17⟩ := c.t.d.def_ 17 (d := dd17) rfl
  have F17 : FunD K (⟨#[108, 105, 107, 101]⟩ : Str) (⟨#[72, 97, 108, 108, 46, 108, 105, 107, 101]⟩ : Str) (defArgs s17) (defBody s17) (defScope s17) [] [] (He.fAd K ((⟨#[72, 97, 108, 108]⟩ : Str), some (⟨#[108, 105, 107, 101]⟩ : Str))) fd17 := F17
  have D17 : DefF pr w K (tb.G K w) tb.P Tb n_Hall_2e_like f17 := DefF.of (t := tb) (N := N17) rfl F17 sc17 rfl rfl ok17 rfl (show tb.miss.lookup n_Hall_2e_like = some [[]] by kernel_rfl) ⟨⟨[], [], FunD.bindsN F17 (fun _ _ _ _ _ _ us hl => match us, hl with | [_, _, _], _ => rfl), .nil, fun _ _ => rfl⟩, trivial⟩
  obtain ⟨fd18, F18⟩ := c.t.d.def_ 18 (d := dd18) rfl
  have F18 : FunD K (⟨#[115, 116, 114, 105, 107, 101]⟩ : Str) (⟨#[72, 97, 108, 108, 46, 115, 116, 114, 105, 107, 101]⟩ : Str) (defArgs s18) (defBody s18) (defScope s18) [] [] (He.fAd K ((⟨#[72, 97, 108, 108]⟩ : Str), some (⟨#[115, 116, 114, 105, 107, 101]⟩ : Str))) fd18 := F18
  have D18 : DefF pr w K (tb.G K w) tb.P Tb n_Hall_2e_strike f18 := DefF.of (t := tb) (N := N18) rfl F18 sc18 rfl rfl ok18 rfl (show tb.miss.lookup n_Hall_2e_strike = some [[]] by kernel_rfl) ⟨⟨[], [], FunD.bindsN F18 (fun _ _ _ _ _ _ us hl => match us, hl with | [_, _], _ => rfl), .nil, fun _ _ => rfl⟩, trivial⟩
  obtain ⟨fd19, F19⟩ := c.t.d.def_ 19 (d := dd19) rfl
  have F19 : FunD K (⟨#[112, 117, 116]⟩ : Str) (⟨#[72, 97, 108, 108, 46, 112, 117, 116]⟩ : Str) (defArgs s19) (defBody s19) (defScope s19) [] [] (He.fAd K ((⟨#[72, 97, 108, 108]⟩ : Str), some (⟨#[112, 117, 116]⟩ : Str))) fd19 := F19
  have D19 : DefF pr w K (tb.G K w) tb.P Tb n_Hall_2e_put f19 := DefF.of (t := tb) (N := N19) rfl F19 sc19 rfl rfl ok19 rfl (show tb.miss.lookup n_Hall_2e_put = some [[]] by kernel_rfl) ⟨⟨[], [], FunD.bindsN F19 (fun _ _ _ _ _ _ us hl => match us, hl with | [_, _, _], _ => rfl), .nil, fun _ _ => rfl⟩, trivial⟩
  obtain ⟨fd20, F20⟩ := c.t.d.def_ 20 (d := dd20) rfl
  have F20 : FunD K (⟨#[112, 97, 115, 116]⟩ : Str) (⟨#[72, 97, 108, 108, 46, 112, 97, 115, 116]⟩ : Str) (defArgs s20) (defBody s20) (defScope s20) [] [] (He.fAd K ((⟨#[72, 97, 108, 108]⟩ : Str), some (⟨#[112, 97, 115, 116]⟩ : Str))) fd20 := F20
  have D20 : DefF pr w K (tb.G K w) tb.P Tb n_Hall_2e_past f20 := DefF.of (t := tb) (N := N20) rfl F20 sc20 rfl rfl ok20 rfl (show tb.miss.lookup n_Hall_2e_past = some [[]] by kernel_rfl) ⟨⟨[], [], FunD.bindsN F20 (fun _ _ _ _ _ _ us hl => match us, hl with | [_], _ => rfl), .nil, fun _ _ => rfl⟩, trivial⟩
  obtain ⟨fd21, F21⟩ := c.t.d.def_ 21 (d := dd21) rfl
  have F21 : FunD K (⟨#[108, 105, 110, 101, 115]⟩ : Str) (⟨#[72, 97, 108, 108, 46, 108, 105, 110, 101, 115]⟩ : Str) (defArgs s21) (defBody s21) (defScope s21) [] [] (He.fAd K ((⟨#[72, 97, 108, 108]⟩ : Str), some (⟨#[108, 105, 110, 101, 115]⟩ : Str))) fd21 := F21
  have D21 : DefF pr w K (tb.G K w) tb.P Tb n_Hall_2e_lines f21 := DefF.of (t := tb) (N := N21) rfl F21 sc21 rfl rfl ok21 rfl (show tb.miss.lookup n_Hall_2e_lines = some [[]] by kernel_rfl) ⟨⟨[], [], FunD.bindsN F21 (fun _ _ _ _ _ _ us hl => match us, hl with | [_], _ => rfl), .nil, fun _ _ => rfl⟩, trivial⟩
  obtain ⟨fd22, F22⟩ := c.t.d.def_ 22 (d := dd22) rfl
  have F22 : FunD K (⟨#[99, 111, 109, 105, 110, 103]⟩ : Str) (⟨#[72, 97, 108, 108, 46, 99, 111, 109, 105, 110, 103]⟩ : Str) (defArgs s22) (defBody s22) (defScope s22) [] [] (He.fAd K ((⟨#[72, 97, 108, 108]⟩ : Str), some (⟨#[99, 111, 109, 105, 110, 103]⟩ : Str))) fd22 := F22
  have D22 : DefF pr w K (tb.G K w) tb.P Tb n_Hall_2e_coming f22 := DefF.of (t := tb) (N := N22) rfl F22 sc22 rfl rfl ok22 rfl (show tb.miss.lookup n_Hall_2e_coming = some [[]] by kernel_rfl) ⟨⟨[], [], FunD.bindsN F22 (fun _ _ _ _ _ _ us hl => match us, hl with | [_], _ => rfl), .nil, fun _ _ => rfl⟩, trivial⟩
  obtain ⟨fd23, F23⟩ := c.t.d.def_ 23 (d := dd23) rfl
  have F23 : FunD K (⟨#[119, 111, 114, 100, 115]⟩ : Str) (⟨#[72, 97, 108, 108, 46, 119, 111, 114, 100, 115]⟩ : Str) (defArgs s23) (defBody s23) (defScope s23) [] [] (He.fAd K ((⟨#[72, 97, 108, 108]⟩ : Str), some (⟨#[119, 111, 114, 100, 115]⟩ : Str))) fd23 := F23
  have D23 : DefF pr w K (tb.G K w) tb.P Tb n_Hall_2e_words f23 := DefF.of (t := tb) (N := N23) rfl F23 sc23 rfl rfl ok23 rfl (show tb.miss.lookup n_Hall_2e_words = some [[]] by kernel_rfl) ⟨⟨[], [], FunD.bindsN F23 (fun _ _ _ _ _ _ us hl => match us, hl with | [_], _ => rfl), .nil, fun _ _ => rfl⟩, trivial⟩
  obtain ⟨fd24, F24⟩ := c.t.d.def_ 24 (d := dd24) rfl
  have F24 : FunD K (⟨#[108, 97, 105, 100]⟩ : Str) (⟨#[72, 97, 108, 108, 46, 108, 97, 105, 100]⟩ : Str) (defArgs s24) (defBody s24) (defScope s24) [] [] (He.fAd K ((⟨#[72, 97, 108, 108]⟩ : Str), some (⟨#[108, 97, 105, 100]⟩ : Str))) fd24 := F24
  have D24 : DefF pr w K (tb.G K w) tb.P Tb n_Hall_2e_laid f24 := DefF.of (t := tb) (N := N24) rfl F24 sc24 rfl rfl ok24 rfl (show tb.miss.lookup n_Hall_2e_laid = some [[]] by kernel_rfl) ⟨⟨[], [], FunD.bindsN F24 (fun _ _ _ _ _ _ us hl => match us, hl with | [_], _ => rfl), .nil, fun _ _ => rfl⟩, trivial⟩
  obtain ⟨fd25, F25⟩ := c.t.d.def_ 25 (d := dd25) rfl
  have F25 : FunD K (⟨#[115, 104, 111, 119, 110, 95, 119, 111, 114, 100]⟩ : Str) (⟨#[115, 104, 111, 119, 110, 95, 119, 111, 114, 100]⟩ : Str) (defArgs s25) (defBody s25) (defScope s25) [] [] (He.fAd K ((⟨#[115, 104, 111, 119, 110, 95, 119, 111, 114, 100]⟩ : Str), none)) fd25 := F25
  have D25 : DefF pr w K (tb.G K w) tb.P Tb n_shown_word f25 := DefF.of (t := tb) (N := N25) rfl F25 sc25 rfl rfl ok25 rfl (show tb.miss.lookup n_shown_word = some [[]] by kernel_rfl) ⟨⟨[], [], FunD.bindsN F25 (fun _ _ _ _ _ _ us hl => match us, hl with | [_], _ => rfl), .nil, fun _ _ => rfl⟩, trivial⟩
  obtain ⟨fd26, F26⟩ := c.t.d.def_ 26 (d := dd26) rfl
  have F26 : FunD K (⟨#[114, 101, 97, 100, 95, 119, 111, 114, 100]⟩ : Str) (⟨#[114, 101, 97, 100, 95, 119, 111, 114, 100]⟩ : Str) (defArgs s26) (defBody s26) (defScope s26) [] [] (He.fAd K ((⟨#[114, 101, 97, 100, 95, 119, 111, 114, 100]⟩ : Str), none)) fd26 := F26
  have D26 : DefF pr w K (tb.G K w) tb.P Tb n_read_word f26 := DefF.of (t := tb) (N := N26) rfl F26 sc26 rfl rfl ok26 rfl (show tb.miss.lookup n_read_word = some [[]] by kernel_rfl) ⟨⟨[], [], FunD.bindsN F26 (fun _ _ _ _ _ _ us hl => match us, hl with | [_], _ => rfl), .nil, fun _ _ => rfl⟩, trivial⟩
  obtain ⟨fd27, F27⟩ := c.t.d.def_ 27 (d := dd27) rfl
  have F27 : FunD K (⟨#[114, 101, 97, 100, 95, 110, 117, 109, 98, 101, 114]⟩ : Str) (⟨#[114, 101, 97, 100, 95, 110, 117, 109, 98, 101, 114]⟩ : Str) (defArgs s27) (defBody s27) (defScope s27) [] [] (He.fAd K ((⟨#[114, 101, 97, 100, 95, 110, 117, 109, 98, 101, 114]⟩ : Str), none)) fd27 := F27
  have D27 : DefF pr w K (tb.G K w) tb.P Tb n_read_number f27 := DefF.of (t := tb) (N := N27) rfl F27 sc27 rfl rfl ok27 rfl (show tb.miss.lookup n_read_number = some [[]] by kernel_rfl) ⟨⟨[], [], FunD.bindsN F27 (fun _ _ _ _ _ _ us hl => match us, hl with | [_], _ => rfl), .nil, fun _ _ => rfl⟩, trivial⟩
  obtain ⟨fd28, F28⟩ := c.t.d.def_ 28 (d := dd28) rfl
  have F28 : FunD K (⟨#[112, 97, 103, 101]⟩ : Str) (⟨#[112, 97, 103, 101]⟩ : Str) (defArgs s28) (defBody s28) (defScope s28) [] [] (He.fAd K ((⟨#[112, 97, 103, 101]⟩ : Str), none)) fd28 := F28
  have D28 : DefF pr w K (tb.G K w) tb.P Tb n_page f28 := DefF.of (t := tb) (N := N28) rfl F28 sc28 rfl rfl ok28 rfl (show tb.miss.lookup n_page = some [[]] by kernel_rfl) ⟨⟨[], [], FunD.bindsN F28 (fun _ _ _ _ _ _ us hl => match us, hl with | [_], _ => rfl), .nil, fun _ _ => rfl⟩, trivial⟩
  obtain ⟨fd29, F29⟩ := c.t.d.def_ 29 (d := dd29) rfl
  have F29 : FunD K (⟨#[106, 111, 105, 110, 101, 100, 95, 116, 101, 120, 116]⟩ : Str) (⟨#[106, 111, 105, 110, 101, 100, 95, 116, 101, 120, 116]⟩ : Str) (defArgs s29) (defBody s29) (defScope s29) [] [] (He.fAd K ((⟨#[106, 111, 105, 110, 101, 100, 95, 116, 101, 120, 116]⟩ : Str), none)) fd29 := F29
  have D29 : DefF pr w K (tb.G K w) tb.P Tb n_joined_text f29 := DefF.of (t := tb) (N := N29) rfl F29 sc29 rfl rfl ok29 rfl (show tb.miss.lookup n_joined_text = some [[]] by kernel_rfl) ⟨⟨[], [], FunD.bindsN F29 (fun _ _ _ _ _ _ us hl => match us, hl with | [_], _ => rfl), .nil, fun _ _ => rfl⟩, trivial⟩
  obtain ⟨fd30, F30⟩ := c.t.d.def_ 30 (d := dd30) rfl
  have F30 : FunD K (⟨#[119, 111, 114, 100, 95, 105, 110]⟩ : Str) (⟨#[119, 111, 114, 100, 95, 105, 110]⟩ : Str) (defArgs s30) (defBody s30) (defScope s30) [] [] (He.fAd K ((⟨#[119, 111, 114, 100, 95, 105, 110]⟩ : Str), none)) fd30 := F30
  have D30 : DefF pr w K (tb.G K w) tb.P Tb n_word_in f30 := DefF.of (t := tb) (N := N30) rfl F30 sc30 rfl rfl ok30 rfl (show tb.miss.lookup n_word_in = some [[]] by kernel_rfl) ⟨⟨[], [], FunD.bindsN F30 (fun _ _ _ _ _ _ us hl => match us, hl with | [_], _ => rfl), .nil, fun _ _ => rfl⟩, trivial⟩
  obtain ⟨fd31, F31⟩ := c.t.d.def_ 31 (d := dd31) rfl
  have F31 : FunD K (⟨#[115, 97, 121, 95, 108, 105, 107, 101]⟩ : Str) (⟨#[115, 97, 121, 95, 108, 105, 107, 101]⟩ : Str) (defArgs s31) (defBody s31) (defScope s31) [] [] (He.fAd K ((⟨#[115, 97, 121, 95, 108, 105, 107, 101]⟩ : Str), none)) fd31 := F31
  have D31 : DefF pr w K (tb.G K w) tb.P Tb n_say_like f31 := DefF.of (t := tb) (N := N31) rfl F31 sc31 rfl rfl ok31 rfl (show tb.miss.lookup n_say_like = some [[]] by kernel_rfl) ⟨⟨[], [], FunD.bindsN F31 (fun _ _ _ _ _ _ us hl => match us, hl with | [_, _], _ => rfl), .nil, fun _ _ => rfl⟩, trivial⟩
  obtain ⟨fd32, F32⟩ := c.t.d.def_ 32 (d := dd32) rfl
  have F32 : FunD K (⟨#[115, 97, 121, 95, 115, 116, 114, 105, 107, 101]⟩ : Str) (⟨#[115, 97, 121, 95, 115, 116, 114, 105, 107, 101]⟩ : Str) (defArgs s32) (defBody s32) (defScope s32) [] [] (He.fAd K ((⟨#[115, 97, 121, 95, 115, 116, 114, 105, 107, 101]⟩ : Str), none)) fd32 := F32
  have D32 : DefF pr w K (tb.G K w) tb.P Tb n_say_strike f32 := DefF.of (t := tb) (N := N32) rfl F32 sc32 rfl rfl ok32 rfl (show tb.miss.lookup n_say_strike = some [[]] by kernel_rfl) ⟨⟨[], [], FunD.bindsN F32 (fun _ _ _ _ _ _ us hl => match us, hl with | [_, _], _ => rfl), .nil, fun _ _ => rfl⟩, trivial⟩
  obtain ⟨fd33, F33⟩ := c.t.d.def_ 33 (d := dd33) rfl
  have F33 : FunD K (⟨#[115, 97, 121, 95, 119, 111, 114, 100]⟩ : Str) (⟨#[115, 97, 121, 95, 119, 111, 114, 100]⟩ : Str) (defArgs s33) (defBody s33) (defScope s33) [] [] (He.fAd K ((⟨#[115, 97, 121, 95, 119, 111, 114, 100]⟩ : Str), none)) fd33 := F33
  have D33 : DefF pr w K (tb.G K w) tb.P Tb n_say_word f33 := DefF.of (t := tb) (N := N33) rfl F33 sc33 rfl rfl ok33 rfl (show tb.miss.lookup n_say_word = some [[]] by kernel_rfl) ⟨⟨[], [], FunD.bindsN F33 (fun _ _ _ _ _ _ us hl => match us, hl with | [_, _], _ => rfl), .nil, fun _ _ => rfl⟩, trivial⟩
  obtain ⟨fd34, F34⟩ := c.t.d.def_ 34 (d := dd34) rfl
  have F34 : FunD K (⟨#[95, 95, 105, 110, 105, 116, 95, 95]⟩ : Str) (⟨#[68, 101, 115, 107, 46, 95, 95, 105, 110, 105, 116, 95, 95]⟩ : Str) (defArgs s34) (defBody s34) (defScope s34) [] [((⟨#[104, 97, 108, 108]⟩ : Str), (V.non))] (He.fAd K ((⟨#[68, 101, 115, 107]⟩ : Str), some (⟨#[95, 95, 105, 110, 105, 116, 95, 95]⟩ : Str))) fd34 := F34
  have D34 : DefF pr w K (tb.G K w) tb.P Tb n_Desk_2e___init__ f34 := DefF.of (t := tb) (N := N34) rfl F34 sc34 rfl rfl ok34 rfl (show tb.miss.lookup n_Desk_2e___init__ = some [[.non]] by kernel_rfl) ⟨(let ⟨us, v, b⟩ := FunD.binds0 F34 1 (List.cons_ne_nil _ _) rfl (fun _ _ _ _ _ _ us ks h1 h2 => match us, ks, h1, h2 with | [_], [_], _, _ => ⟨_, _, _, _, _, _, rfl, rfl, (by show _ = _; kernel_rfl)⟩); ⟨us, _, b, v, fun _ _ => ⟨_, _, rfl, rfl, rfl⟩⟩), trivial⟩
  obtain ⟨fd35, F35⟩ := c.t.d.def_ 35 (d := dd35) rfl
  have F35 : FunD K (⟨#[115, 97, 121]⟩ : Str) (⟨#[68, 101, 115, 107, 46, 115, 97, 121]⟩ : Str) (defArgs s35) (defBody s35) (defScope s35) [] [] (He.fAd K ((⟨#[68, 101, 115, 107]⟩ : Str), some (⟨#[115, 97, 121]⟩ : Str))) fd35 := F35
  have D35 : DefF pr w K (tb.G K w) tb.P Tb n_Desk_2e_say f35 := DefF.of (t := tb) (N := N35) rfl F35 sc35 rfl rfl ok35 rfl (show tb.miss.lookup n_Desk_2e_say = some [[]] by kernel_rfl) ⟨⟨[], [], FunD.bindsN F35 (fun _ _ _ _ _ _ us hl => match us, hl with | [_, _], _ => rfl), .nil, fun _ _ => rfl⟩, trivial⟩
  obtain ⟨fd36, F36⟩ := c.t.d.def_ 36 (d := dd36) rfl
  have F36 : FunD K (⟨#[95, 108, 97, 119, 95, 98, 101, 103, 105, 110]⟩ : Str) (⟨#[95, 108, 97, 119, 95, 98, 101, 103, 105, 110]⟩ : Str) (defArgs s36) (defBody s36) (defScope s36) [] [] (He.fAd K ((⟨#[95, 108, 97, 119, 95, 98, 101, 103, 105, 110]⟩ : Str), none)) fd36 := F36
  have D36 : DefF pr w K (tb.G K w) tb.P Tb n__law_begin f36 := DefF.of (t := tb) (N := N36) rfl F36 sc36 rfl rfl ok36 rfl (show tb.miss.lookup n__law_begin = some [[]] by kernel_rfl) ⟨⟨[], [], FunD.bindsN F36 (fun _ _ _ _ _ _ us hl => match us, hl with | [_], _ => rfl), .nil, fun _ _ => rfl⟩, trivial⟩
  obtain ⟨fd37, F37⟩ := c.t.d.def_ 37 (d := dd37) rfl
  have F37 : FunD K (⟨#[95, 108, 97, 119, 95, 112, 117, 108, 108]⟩ : Str) (⟨#[95, 108, 97, 119, 95, 112, 117, 108, 108]⟩ : Str) (defArgs s37) (defBody s37) (defScope s37) [] [] (He.fAd K ((⟨#[95, 108, 97, 119, 95, 112, 117, 108, 108]⟩ : Str), none)) fd37 := F37
  have D37 : DefF pr w K (tb.G K w) tb.P Tb n__law_pull f37 := DefF.of (t := tb) (N := N37) rfl F37 sc37 rfl rfl ok37 rfl (show tb.miss.lookup n__law_pull = some [[]] by kernel_rfl) ⟨⟨[], [], FunD.bindsN F37 (fun _ _ _ _ _ _ us hl => match us, hl with | [_, _], _ => rfl), .nil, fun _ _ => rfl⟩, trivial⟩
  obtain ⟨fd38, F38⟩ := c.t.d.def_ 38 (d := dd38) rfl
  have F38 : FunD K (⟨#[95, 108, 97, 119, 95, 112, 105, 99, 107]⟩ : Str) (⟨#[95, 108, 97, 119, 95, 112, 105, 99, 107]⟩ : Str) (defArgs s38) (defBody s38) (defScope s38) [] [] (He.fAd K ((⟨#[95, 108, 97, 119, 95, 112, 105, 99, 107]⟩ : Str), none)) fd38 := F38
  have D38 : DefF pr w K (tb.G K w) tb.P Tb n__law_pick f38 := DefF.of (t := tb) (N := N38) rfl F38 sc38 rfl rfl ok38 rfl (show tb.miss.lookup n__law_pick = some [[]] by kernel_rfl) ⟨⟨[], [], FunD.bindsN F38 (fun _ _ _ _ _ _ us hl => match us, hl with | [_, _], _ => rfl), .nil, fun _ _ => rfl⟩, trivial⟩
  obtain ⟨fd39, F39⟩ := c.t.d.def_ 39 (d := dd39) rfl
  have F39 : FunD K (⟨#[95, 108, 97, 119, 95, 115, 97, 109, 101]⟩ : Str) (⟨#[95, 108, 97, 119, 95, 115, 97, 109, 101]⟩ : Str) (defArgs s39) (defBody s39) (defScope s39) [] [] (He.fAd K ((⟨#[95, 108, 97, 119, 95, 115, 97, 109, 101]⟩ : Str), none)) fd39 := F39
  have D39 : DefF pr w K (tb.G K w) tb.P Tb n__law_same f39 := DefF.of (t := tb) (N := N39) rfl F39 sc39 rfl rfl ok39 rfl (show tb.miss.lookup n__law_same = some [[]] by kernel_rfl) ⟨⟨[], [], FunD.bindsN F39 (fun _ _ _ _ _ _ us hl => match us, hl with | [_, _], _ => rfl), .nil, fun _ _ => rfl⟩, trivial⟩
  obtain ⟨fd40, F40⟩ := c.t.d.def_ 40 (d := dd40) rfl
  have F40 : FunD K (⟨#[108, 97, 119]⟩ : Str) (⟨#[108, 97, 119]⟩ : Str) (defArgs s40) (defBody s40) (defScope s40) [] [] (He.fAd K ((⟨#[108, 97, 119]⟩ : Str), none)) fd40 := F40
  have D40 : DefF pr w K (tb.G K w) tb.P Tb n_law f40 := DefF.of0 (t := tb) (N := N40) rfl F40 sc40 rfl rfl ok40 rfl (by kernel_rfl)
  exact ⟨D0, D1, D2, D3, D4, D5, D6, D7, D8, D9, D10, D11, D12, D13, D14, D15, D16, D17, D18, D19, D20, D21, D22, D23, D24, D25, D26, D27, D28, D29, D30, D31, D32, D33, D34, D35, D36, D37, D38, D39, D40, trivial⟩
theorem exsAll (X : K.In h) (G : h.Ns mainGlobals mg) (c : SaysM [] fnD ts ex w K) : AllX (ExsF pr w K mg base tb) Tb.exs := by
  have c0 := c.more
  obtain ⟨c0, e_NoLine⟩ := band c0
  obtain ⟨fd_Lacking, F_Lacking⟩ := c.t.d.def_ 41 (d := dx_Lacking) rfl
  have F_Lacking : FunD K (⟨#[95, 95, 105, 110, 105, 116, 95, 95]⟩ : Str) (⟨#[76, 97, 99, 107, 105, 110, 103, 46, 95, 95, 105, 110, 105, 116, 95, 95]⟩ : Str) (defArgs x_Lacking) (defBody x_Lacking) (defScope x_Lacking) [] [] (He.ma K (He.ga K n_Lacking) "__init__") fd_Lacking := F_Lacking
  have S_Lacking : FnScope ["self", "word"] ["self", "word"] (defScope x_Lacking) := ⟨by decide +kernel, by decide +kernel, by decide +kernel, by decide +kernel, by decide +kernel, by decide +kernel, by decide +kernel⟩
  obtain ⟨fd_NoLine, F_NoLine⟩ := c.t.d.def_ 42 (d := dx_NoLine) rfl
  have F_NoLine : FunD K (⟨#[95, 95, 105, 110, 105, 116, 95, 95]⟩ : Str) (⟨#[78, 111, 76, 105, 110, 101, 46, 95, 95, 105, 110, 105, 116, 95, 95]⟩ : Str) (defArgs x_NoLine) (defBody x_NoLine) (defScope x_NoLine) [] [] (He.ma K (He.ga K n_NoLine) "__init__") fd_NoLine := F_NoLine
  have X_NoLine : ExsF pr w K mg base tb n_NoLine := exs_of (wd := (⟨#[110, 111, 108, 105, 110, 101]⟩ : Str)) (B := n_Lacking) (fs := [n_number]) bx_le PySem.F.excBase_LookupError X G e_NoLine F_NoLine ⟨by decide +kernel, by decide +kernel, by decide +kernel, by decide +kernel, by decide +kernel, by decide +kernel, by decide +kernel⟩ (by decide +kernel) (by decide) (by decide +kernel) F_Lacking S_Lacking (by decide +kernel) (FunD.bindsN F_NoLine (fun _ _ _ _ _ _ us hl => match us, hl with | [_, _], _ => rfl)) (FunD.bindsN F_Lacking (fun _ _ _ _ _ _ us hl => match us, hl with | [_, _], _ => rfl)) (by decide +kernel) (by decide +kernel) (by decide +kernel) (by kernel_rfl)
  exact ⟨X_NoLine, trivial⟩
theorem facts (X : K.In h) (G : h.Ns mainGlobals mg) (c : SaysM [] fnD ts ex w K) : Facts pr w K mg base (tb.G K w) tb.P Tb := by
  have c0 := c.more
  obtain ⟨c0, _⟩ := band c0
  refine facts_of X G (band c0).1 (fun x fs e => ?_) (by decide +kernel) (defsAll c) (exsAll X G c)
  have m := look_mem e
  have hall : ∀ p ∈ tb.globs, (match p.2 with | .wd _ => true | _ => false) = true → p.1 = n_DOES ∨ p.1 = n_TAKES := by decide +kernel
  have hx := hall _ m rfl
  rcases hx with hx | hx
  · have hx : x = _ := hx
    subst hx
    exact c.t.tab 0 (t := (fun K => He.ga K n_DOES, _)) rfl
  · have hx : x = _ := hx
    subst hx
    exact c.t.tab 1 (t := (fun K => He.ga K n_TAKES, _)) rfl
end
theorem law_end {w : World} {mg : Str → Option Value} {fa : Addr} {h : Heap} {K : PySem.W.Frag} (KX : K.In h) (G : h.Ns mainGlobals mg) (hmg : mg ("law" : Str) = some (.ref fa)) (c : SaysM [] fnD ts ex w K) :
    ∃ (K : PySem.W.Frag) (fd : FuncData) (sp : Sp), K.In h ∧ (∀ (s : Shared) (u : Value), BindsTo s fd ⟨[u], []⟩ [("_law_script", u)]) ∧
        (∀ (H : Hp) (a : Addr) (ns : List Int), ns.length ≤ 63 → Only H → SqL K H a (ns.map V.int) → sp [.ref a] H (fun v _ => v = .bl true) fun _ _ _ => False) ∧
        ∀ base : Heap, K.In base → base.Ns mainGlobals mg → FnOk (PySem.Challenge.rw_spoorfold_k78_rows_that_a_desk_knows_not).prog w K mg base Mp.CXU (2 * 14 + 2) fa fd ["_law_script"] sp := by
  obtain ⟨fd, F⟩ := c.t.d.def_ 40 (d := dd40) rfl
  have F : FunD K (⟨#[108, 97, 119]⟩ : Str) (⟨#[108, 97, 119]⟩ : Str) (defArgs s40) (defBody s40) (defScope s40) [] [] (He.ga K n_law) fd := F
  have eg : mg n_law = some (.ref (He.ga K n_law)) := by
    have c0 := c.more
    obtain ⟨c0, _⟩ := band c0
    exact He.glo_ok KX G (band c0).2
  have e : He.ga K n_law = fa := by
    have e2 := eg.symm.trans hmg
    cases e2
    rfl
  have b := FunD.bindsA (ps := ["_law_script"]) F fun _ _ _ _ _ _ us hl => match us, hl with | [_], _ => rfl
  refine ⟨K, fd, spI (tb.G K w) tb.P 14 n_law, KX, fun s v => b s [v] rfl, fun H a ns hl _ hS => law_sp hS (law_ok ns), fun base hb1 hb2 => ?_⟩
  have fc := facts (pr := (PySem.Challenge.rw_spoorfold_k78_rows_that_a_desk_knows_not).prog) (base := base) KX G c
  exact law_un (k := 13) (f := n_law) fc rfl e (show tb.P.fn n_law = some f40 by kernel_rfl) F sc40 rfl rfl ok40
end K78
open PySem PySem.W PySem.Calls PyProof.Rows
set_option maxRecDepth 100000 in
set_option maxHeartbeats 0 in
theorem PySem.Challenge.cw_spoorfold_k78_rows_that_a_desk_knows_not_holds : PySem.Challenge.rw_spoorfold_k78_rows_that_a_desk_knows_not.Holds := by
  w_on; o_law
  refine HandSHeadRun.head_any (r := OpenLaw.row PySem.Challenge.rw_spoorfold_k78_rows_that_a_desk_knows_not) (q := view (OpenLaw.row PySem.Challenge.rw_spoorfold_k78_rows_that_a_desk_knows_not).prog [109]) (H := K78.hk) (ob := K78.ob) (M := 11200) (loose := K78.loose) (d := HandSHeadRun.topDef (OpenLaw.row PySem.Challenge.rw_spoorfold_k78_rows_that_a_desk_knows_not).prog 109) (kwd := []) (fun s => Mp.obsA_eq s)
    (by kernel_rfl) (fun s => by kernel_rfl) K78.run (by kernel_rfl) (by kernel_rfl) (by kernel_rfl) (by rfl) (by first | assumption | decide +kernel) (by decide +kernel) ⟨rfl, rfl, rfl, rfl, rfl, by decide +kernel⟩ ?hw ?hc
  case hw => w_witness2
  case hc =>
    refine L2.walk_ofE (l := PySem.Challenge.rw_spoorfold_k78_rows_that_a_desk_knows_not) (n := 63) (k := 2 * 14 + 2) (x := "_law_script") (CX := Mp.CXU) rfl (by decide) (by kernel_rfl) ⟨rfl, by decide, by decide⟩ ?F (fun _ _ _ _ ⟨_, _, _, z⟩ => z)
    intro w mg fa h Y G hmg0
    obtain ⟨K, KX, c⟩ := Y
    have hmg : mg ("law" : PySem.Str) = some (.ref fa) := by
      have e : (HandSHeadRun.topDef (OpenLaw.row PySem.Challenge.rw_spoorfold_k78_rows_that_a_desk_knows_not).prog 109).name = ("law" : PySem.Str) := by kernel_rfl
      rw [← e]
      exact hmg0
    exact K78.law_end KX G hmg c
